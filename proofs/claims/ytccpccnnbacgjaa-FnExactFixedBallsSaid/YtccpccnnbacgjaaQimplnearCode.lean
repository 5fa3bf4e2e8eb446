-- turned for this claim out of the kit's print: the same functions, packed anew
import Derived.Test.YtccpccnnbacgjaaQx
import Derived.Test.YtccpccnnbacgjaaQLeqBallS
import Derived.Test.YtccpccnnbacgjaaQimplmark
namespace Go.Proofs.Ytccpccnnbacgjaa.PAll
open Go.RowKit Go.Proofs.YtccpccnnbacgjaaW.PrintWords Go.Proofs.YtccpccnnbacgjaaW.PrintLast Go.Proofs.YtccpccnnbacgjaaW.PrintMore
attribute [local go_sem] Go.Proofs.Ytccpccnnbacgjaa.Aux.setCell_drewN Go.Proofs.Ytccpccnnbacgjaa.Aux.isSome_setCell max2_int min2_int max_two min_two max_three min_three max_four min_four   -- for this text's walks alone
set_option linter.unusedVariables false
set_option linter.unusedSimpArgs false
/-! ### impl_nearCode: function 73 -/
def impl_nearCode.j0 : Nat → Int → Bool → Option (Int)
 | 0, _, _ => none
 | k + 1, x3, x9 => if x9 = true then (some 1) else (if x3 < 0 then (some 2) else (if x3 > 3 then (some 2) else (some 0)))
def impl_nearCode.f (k : Nat) (a0 : Int) (a1_0 : Int) (a1_1 : Int) (a1_2 : Int) (a1_3 : Int) (a2_0 : Int) (a2_1 : Int) (a2_2 : Int) (a3 : Int) : Option (Int) := (impl_IsBall.f k a0 a2_0 a2_1 a2_2).bind fun t541 => (if t541 = true then ((impl_IsMatrix.f k a1_0 a1_1 a1_2 a1_3).bind fun t542 => (impl_nearCode.j0 k a3 (!t542))) else (impl_nearCode.j0 k a3 true))
theorem impl_nearCode.mono_l : ∀ k, (∀ y0 y1, LeO (impl_nearCode.j0 k y0 y1) (impl_nearCode.j0 (k + 1) y0 y1))
 | 0 => fun _ _ r h => by simp [impl_nearCode.j0] at h
 | k + 1 => by
  have ih0 := impl_nearCode.mono_l k
  ·
   intro y0 y1
   unfold impl_nearCode.j0
   repeat' first
   | (with_reducible exact ih0 _ _)
   | (with_reducible exact impl_IsBall.mono _ _ _ _ _)
   | (with_reducible exact impl_IsMatrix.mono _ _ _ _ _)
   | (with_reducible exact LeO.refl _)
   | (with_reducible exact LeO.none _)
   | (with_reducible refine LeO.ite ?_ ?_)
   | (with_reducible refine LeO.bind ?_ (fun _ => ?_))
   | exact ih0 _ _
   | exact impl_IsBall.mono _ _ _ _ _
   | exact impl_IsMatrix.mono _ _ _ _ _
   | exact LeO.none _
   | refine LeO.ite ?_ ?_
   | refine LeO.bind ?_ (fun _ => ?_)
theorem impl_nearCode.mono : ∀ a0 a1 a2 a3 a4 a5 a6 a7 a8 k, LeO (impl_nearCode.f k a0 a1 a2 a3 a4 a5 a6 a7 a8) (impl_nearCode.f (k + 1) a0 a1 a2 a3 a4 a5 a6 a7 a8) := by
 intro a0 a1 a2 a3 a4 a5 a6 a7 a8 k
 have ih0 := impl_nearCode.mono_l k
 unfold impl_nearCode.f
 repeat' first
   | (with_reducible exact ih0 _ _)
   | (with_reducible exact impl_IsBall.mono _ _ _ _ _)
   | (with_reducible exact impl_IsMatrix.mono _ _ _ _ _)
   | (with_reducible exact LeO.refl _)
   | (with_reducible exact LeO.none _)
   | (with_reducible refine LeO.ite ?_ ?_)
   | (with_reducible refine LeO.bind ?_ (fun _ => ?_))
   | exact ih0 _ _
   | exact impl_IsBall.mono _ _ _ _ _
   | exact impl_IsMatrix.mono _ _ _ _ _
   | exact LeO.none _
   | refine LeO.ite ?_ ?_
   | refine LeO.bind ?_ (fun _ => ?_)
set_option maxHeartbeats 8000000 in
set_option maxRecDepth 100000 in
theorem impl_nearCode.calls (k : Nat) (a0 : Int) (a1_0 : Int) (a1_1 : Int) (a1_2 : Int) (a1_3 : Int) (a2_0 : Int) (a2_1 : Int) (a2_2 : Int) (a3 : Int) (r : Int) (w : World) (h : impl_nearCode.f k a0 a1_0 a1_1 a1_2 a1_3 a2_0 a2_1 a2_2 a3 = some r) :
  Calls Try.prog 73 #[.int .i64 a0, .agg #[.int .i64 a1_0, .int .i64 a1_1, .int .i64 a1_2, .int .i64 a1_3], .agg #[.int .i64 a2_0, .int .i64 a2_1, .int .i64 a2_2], .int .i64 a3] w fun e w' => e = .returned (.int .i64 r) ∧ Below w.heap.size w w' := by
 have hu26 := Try.underlying26
 have hu39 := Try.underlying39
 have HB := Aside0.mk (Below.refl w.heap.size w)
 have H := h
 unfold impl_nearCode.f at H
 clear h
 have HC5 := Aside0.mk H
 clear H
 go_enter Try.func73, Try.ntmps73
 go_upto_region 1 with (first | ((with_reducible refine gate_dst (N := 5) rfl ?_); refine box_event ?hg (N := 5) ?hd (cs := #[.int .i64 a1_0, .int .i64 a1_1, .int .i64 a1_2, .int .i64 a1_3]) (t := 26) ?hr ?_; (case hd => rfl); (case hg => rfl); (case hr => first | (go_simp; done) | (go_simp; rfl)); intro gb539 hg w6 hbox hb; have n0_ := lB hb; have n1_ := Aside0.mk (hbox); have n2_ := sA hg; have n3_ := sA hg; clear HB; have HB := n0_; have BK539 := n1_; have GW539 := n2_; have GE539 := n3_; clear n0_ n1_ n2_ n3_; clear hb hbox hg) | ((with_reducible refine gate_dst (N := 6) rfl ?_); refine box_event ?hg (N := 6) ?hd (cs := #[.int .i64 a2_0, .int .i64 a2_1, .int .i64 a2_2]) (t := 39) ?hr ?_; (case hd => rfl); (case hg => rfl); (case hr => first | (go_simp; done) | (go_simp; rfl)); intro gb540 hg w7 hbox hb; have n0_ := kB BK539 hb; have n1_ := lB hb; have n2_ := Aside0.mk (hbox); have n3_ := sA hg; have n4_ := sA hg; have n5_ := nA hg BK539; have n6_ := nB hg BK539; clear BK539; clear HB; have BK539 := n0_; have HB := n1_; have BK540 := n2_; have GW540 := n3_; have GE540 := n4_; have NB539_540 := n5_; have NB540_539 := n6_; clear n0_ n1_ n2_ n3_ n4_ n5_ n6_; clear hb hbox hg))
 (try simp only [Act.put, List.setIfInBounds_toArray, List.set_cons_zero, List.set_cons_succ])
 go_cut [9] (fun v9 wc => ∃ (kq : Nat) (x9_4 : Bool), v9 = .bool x9_4 ∧ Aside0 (impl_nearCode.j0 kq a3 x9_4 = some r) ∧ Aside0 (kq ≤ k) ∧ Aside0 (wc.heap[gb539]? = some (.cells #[.int .i64 a1_0, .int .i64 a1_1, .int .i64 a1_2, .int .i64 a1_3] 26 (0, 0))) ∧ Aside0 (wc.heap[gb540]? = some (.cells #[.int .i64 a2_0, .int .i64 a2_1, .int .i64 a2_2] 39 (0, 0))) ∧ Aside0 (Below w.heap.size w wc))
 case first =>
  have H := HC5.out
  clear HC5
  replace H := bS H
  obtain ⟨t541, A8, H⟩ := H
  try dsimp only at H
  by_cases c9 : t541 = true
  ·
   subst c9
   rw [if_pos rfl] at H
   try dsimp only at H
   replace H := bS H
   obtain ⟨t542, A10, H⟩ := H
   try dsimp only at H
   have H' := Aside0.mk H
   clear H
   have hnb11 := NB540_539.out
   have hnc11 := NB539_540.out
   have hcz12_0 : w7.cell? ⟨gb540, 0, none⟩ = some (.int .i64 a2_0) := cA BK540 0
   have hcz12_1 : w7.cell? ⟨gb540, 1, none⟩ = some (.int .i64 a2_1) := cA BK540 1
   have hcz12_2 : w7.cell? ⟨gb540, 2, none⟩ = some (.int .i64 a2_2) := cA BK540 2
   have hfz12_0 := blk_frozen BK540.out 0
   have hfz12_1 := blk_frozen BK540.out 1
   have hfz12_2 := blk_frozen BK540.out 2
   go_wp2_with (first | ((with_reducible refine gate_callee (f := 35) rfl ?_); refine goesL_ (some 12) rfl rfl Try.func35 (by kernel_rfl) rfl #[.int .i64 a0, .agg #[.int .i64 a2_0, .int .i64 a2_1, .int .i64 a2_2]] rfl hA ?_; (with_reducible refine (impl_IsBall.calls k a0 a2_0 a2_1 a2_2 true _ A8.out).mono ?_); rintro e w13 ⟨rfl, hb⟩; refine ⟨_, rfl, ?_⟩; have n0_ := kB BK539 hb; have n1_ := kB BK540 hb; have n2_ := lB hb; clear BK539; clear BK540; clear HB; have BK539 := n0_; have BK540 := n1_; have HB := n2_; clear n0_ n1_ n2_; (try clear hb); (try clear hb2); (try clear hk); (try clear hi); have hcz14_0 : w13.cell? ⟨gb539, 0, none⟩ = some (.int .i64 a1_0) := cA BK539 0; have hcz14_1 : w13.cell? ⟨gb539, 1, none⟩ = some (.int .i64 a1_1) := cA BK539 1; have hcz14_2 : w13.cell? ⟨gb539, 2, none⟩ = some (.int .i64 a1_2) := cA BK539 2; have hcz14_3 : w13.cell? ⟨gb539, 3, none⟩ = some (.int .i64 a1_3) := cA BK539 3; have hfz14_0 := blk_frozen BK539.out 0; have hfz14_1 := blk_frozen BK539.out 1; have hfz14_2 := blk_frozen BK539.out 2; have hfz14_3 := blk_frozen BK539.out 3) | (go_at_call 79; (with_reducible refine (impl_IsMatrix.calls k a1_0 a1_1 a1_2 a1_3 t542 _ A10.out).mono ?_); rintro e w15 ⟨rfl, hb⟩; have n0_ := kB BK539 hb; have n1_ := kB BK540 hb; have n2_ := lB hb; clear BK539; clear BK540; clear HB; have BK539 := n0_; have BK540 := n1_; have HB := n2_; clear n0_ n1_ n2_; (try clear hb); (try clear hb2); (try clear hk); (try clear hi)))
   go_meet
   case rel => exact ⟨_, (!t542), hB, H', ⟨by first | omega | exact Nat.le_refl _⟩, ⟨bkA BK539⟩, ⟨bkA BK540⟩, ⟨blA⟩⟩
  ·
   replace c9 := Bool.eq_false_iff.mpr c9
   subst c9
   rw [if_neg (show ¬ (false = true) by decide)] at H
   try dsimp only at H
   have H' := Aside0.mk H
   clear H
   have hnb16 := NB540_539.out
   have hnc16 := NB539_540.out
   have hcz17_0 : w7.cell? ⟨gb540, 0, none⟩ = some (.int .i64 a2_0) := cA BK540 0
   have hcz17_1 : w7.cell? ⟨gb540, 1, none⟩ = some (.int .i64 a2_1) := cA BK540 1
   have hcz17_2 : w7.cell? ⟨gb540, 2, none⟩ = some (.int .i64 a2_2) := cA BK540 2
   have hfz17_0 := blk_frozen BK540.out 0
   have hfz17_1 := blk_frozen BK540.out 1
   have hfz17_2 := blk_frozen BK540.out 2
   go_wp2_with (first | ((with_reducible refine gate_callee (f := 35) rfl ?_); refine goesL_ (some 12) rfl rfl Try.func35 (by kernel_rfl) rfl #[.int .i64 a0, .agg #[.int .i64 a2_0, .int .i64 a2_1, .int .i64 a2_2]] rfl hA ?_; (with_reducible refine (impl_IsBall.calls k a0 a2_0 a2_1 a2_2 false _ A8.out).mono ?_); rintro e w18 ⟨rfl, hb⟩; refine ⟨_, rfl, ?_⟩; have n0_ := kB BK539 hb; have n1_ := kB BK540 hb; have n2_ := lB hb; clear BK539; clear BK540; clear HB; have BK539 := n0_; have BK540 := n1_; have HB := n2_; clear n0_ n1_ n2_; (try clear hb); (try clear hb2); (try clear hk); (try clear hi)))
   go_meet
   case rel => exact ⟨_, (true), hB, H', ⟨by first | omega | exact Nat.le_refl _⟩, ⟨bkA BK539⟩, ⟨bkA BK540⟩, ⟨blA⟩⟩
 case rest =>
  clear HC5
  try clear c1
  try clear p2
  try clear c3
  try clear c7
  try clear c9
  try clear c11
  try clear c16
  try clear hcz12_0
  try clear hcz12_1
  try clear hcz12_2
  try clear hcz14_0
  try clear hcz14_1
  try clear hcz14_2
  try clear hcz14_3
  try clear hcz17_0
  try clear hcz17_1
  try clear hcz17_2
  try clear hfz12_0
  try clear hfz12_1
  try clear hfz12_2
  try clear hfz14_0
  try clear hfz14_1
  try clear hfz14_2
  try clear hfz14_3
  try clear hfz17_0
  try clear hfz17_1
  try clear hfz17_2
  obtain ⟨kq, x9_4, rfl, HA, HJ4, BK539, BK540, HB⟩ := hcut
  cases kq with
  | zero => exact absurd HA.out (by simp [impl_nearCode.j0])
  | succ kj4 =>
   have H := HA.out
   clear HA
   simp only [impl_nearCode.j0] at H
   by_cases c19 : x9_4 = true
   ·
    subst c19
    rw [if_pos rfl] at H
    try dsimp only at H
    obtain rfl := Option.some.inj H
    go_wp2
    go_ret
    exact finA blA
   ·
    replace c19 := Bool.eq_false_iff.mpr c19
    subst c19
    rw [if_neg (show ¬ (false = true) by decide)] at H
    try dsimp only at H
    by_cases c20 : a3 < 0
    ·
     rw [if_pos c20] at H
     have c20b0 := decide_eq_true c20
     clear c20
     obtain rfl := Option.some.inj H
     go_wp2
     go_ret
     exact finA blA
    ·
     rw [if_neg c20] at H
     have c20b0 := decide_eq_false c20
     clear c20
     by_cases c21 : a3 > 3
     ·
      rw [if_pos c21] at H
      have c21b0 : decide (3 < a3) = true := decide_eq_true c21
      clear c21
      obtain rfl := Option.some.inj H
      go_wp2
      go_ret
      exact finA blA
     ·
      rw [if_neg c21] at H
      have c21b0 : decide (3 < a3) = false := decide_eq_false c21
      clear c21
      obtain rfl := Option.some.inj H
      go_wp2
      go_ret
      exact finA blA
end Go.Proofs.Ytccpccnnbacgjaa.PAll
