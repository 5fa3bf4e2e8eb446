-- turned for this claim out of the kit's print: the same functions, packed anew
import Derived.Test.YtccpccnnbacgjaaQx
import Derived.Test.YtccpccnnbacgjaaQbitsLeadingZeros64
import Derived.Test.YtccpccnnbacgjaaQimplnearBalls
import Derived.Test.YtccpccnnbacgjaaQimplnearCode
import Derived.Test.YtccpccnnbacgjaaQspecl04Code
import Derived.Test.YtccpccnnbacgjaaQspecl04Near
namespace Go.Proofs.Ytccpccnnbacgjaa.PAll
open Go.RowKit Go.Proofs.YtccpccnnbacgjaaW.PrintWords Go.Proofs.YtccpccnnbacgjaaW.PrintLast Go.Proofs.YtccpccnnbacgjaaW.PrintMore
attribute [local go_sem] Go.Proofs.Ytccpccnnbacgjaa.Aux.setCell_drewN Go.Proofs.Ytccpccnnbacgjaa.Aux.isSome_setCell max2_int min2_int max_two min_two max_three min_three max_four min_four   -- for this text's walks alone
set_option linter.unusedVariables false
set_option linter.unusedSimpArgs false
/-! ### spec_FixedBalls: function 19 -/
def spec_FixedBalls.j0 : Nat → Int → Int → Int → Bool → Int → Int → Int → Int → Int → Int → Int → Option ((List (S39)) × Int)
 | 0, _, _, _, _, _, _, _, _, _, _, _ => none
 | k + 1, x0, x3, x10, x24, x518000, x518001, x518002, x518003, x519000, x519001, x519002 => if x24 = true then (if 2 = 0 then ((spec_l04Near.f k x0 x518000 x518001 x518002 x518003 x519000 x519001 x519002 x3 0).bind fun bt524 => (some (bt524.1, bt524.2))) else (some (([] : List (S39)), 2))) else (if x10 = 0 then ((spec_l04Near.f k x0 x518000 x518001 x518002 x518003 x519000 x519001 x519002 x3 0).bind fun bt528 => (some (bt528.1, bt528.2))) else (some (([] : List (S39)), x10)))
def spec_FixedBalls.f (k : Nat) (a0 : Int) (a1_0 : Int) (a1_1 : Int) (a1_2 : Int) (a1_3 : Int) (a2_0 : Int) (a2_1 : Int) (a2_2 : Int) (a3 : Int) : Option ((List (S39)) × Int) := (spec_l04Code.f k a0 a1_0 a1_1 a1_2 a1_3 (([(⟨a2_0, a2_1, a2_2⟩ : S39)] : List (S39)))).bind fun t522 => (if t522 = 0 then ((spec_l01In.f a3 0 3).bind fun t523 => (spec_FixedBalls.j0 k a0 a3 t522 (!t523) a1_0 a1_1 a1_2 a1_3 a2_0 a2_1 a2_2)) else (spec_FixedBalls.j0 k a0 a3 t522 false a1_0 a1_1 a1_2 a1_3 a2_0 a2_1 a2_2))
theorem spec_FixedBalls.mono_l : ∀ k, (∀ y0 y1 y2 y3 y4 y5 y6 y7 y8 y9 y10, LeO (spec_FixedBalls.j0 k y0 y1 y2 y3 y4 y5 y6 y7 y8 y9 y10) (spec_FixedBalls.j0 (k + 1) y0 y1 y2 y3 y4 y5 y6 y7 y8 y9 y10))
 | 0 => fun _ _ _ _ _ _ _ _ _ _ _ r h => by simp [spec_FixedBalls.j0] at h
 | k + 1 => by
  have ih0 := spec_FixedBalls.mono_l k
  ·
   intro y0 y1 y2 y3 y4 y5 y6 y7 y8 y9 y10
   unfold spec_FixedBalls.j0
   repeat' first
   | (with_reducible exact ih0 _ _ _ _ _ _ _ _ _ _ _)
   | (with_reducible exact spec_l04Code.mono _ _ _ _ _ _ _)
   | (with_reducible exact spec_l04Near.mono _ _ _ _ _ _ _ _ _ _ _)
   | (with_reducible exact LeO.refl _)
   | (with_reducible exact LeO.none _)
   | (with_reducible refine LeO.ite ?_ ?_)
   | (with_reducible refine LeO.bind ?_ (fun _ => ?_))
   | exact ih0 _ _ _ _ _ _ _ _ _ _ _
   | exact spec_l04Code.mono _ _ _ _ _ _ _
   | exact spec_l04Near.mono _ _ _ _ _ _ _ _ _ _ _
   | exact LeO.none _
   | refine LeO.ite ?_ ?_
   | refine LeO.bind ?_ (fun _ => ?_)
theorem spec_FixedBalls.mono : ∀ a0 a1 a2 a3 a4 a5 a6 a7 a8 k, LeO (spec_FixedBalls.f k a0 a1 a2 a3 a4 a5 a6 a7 a8) (spec_FixedBalls.f (k + 1) a0 a1 a2 a3 a4 a5 a6 a7 a8) := by
 intro a0 a1 a2 a3 a4 a5 a6 a7 a8 k
 have ih0 := spec_FixedBalls.mono_l k
 unfold spec_FixedBalls.f
 repeat' first
   | (with_reducible exact ih0 _ _ _ _ _ _ _ _ _ _ _)
   | (with_reducible exact spec_l04Code.mono _ _ _ _ _ _ _)
   | (with_reducible exact spec_l04Near.mono _ _ _ _ _ _ _ _ _ _ _)
   | (with_reducible exact LeO.refl _)
   | (with_reducible exact LeO.none _)
   | (with_reducible refine LeO.ite ?_ ?_)
   | (with_reducible refine LeO.bind ?_ (fun _ => ?_))
   | exact ih0 _ _ _ _ _ _ _ _ _ _ _
   | exact spec_l04Code.mono _ _ _ _ _ _ _
   | exact spec_l04Near.mono _ _ _ _ _ _ _ _ _ _ _
   | exact LeO.none _
   | refine LeO.ite ?_ ?_
   | refine LeO.bind ?_ (fun _ => ?_)
set_option maxHeartbeats 8000000 in
set_option maxRecDepth 100000 in
theorem spec_FixedBalls.calls (k : Nat) (a0 : Int) (a1_0 : Int) (a1_1 : Int) (a1_2 : Int) (a1_3 : Int) (a2_0 : Int) (a2_1 : Int) (a2_2 : Int) (a3 : Int) (r1 : List (S39)) (r2 : Int) (w : World) (h : spec_FixedBalls.f k a0 a1_0 a1_1 a1_2 a1_3 a2_0 a2_1 a2_2 a3 = some (r1, r2)) :
  Calls Try.prog 19 #[.int .i64 a0, .agg #[.int .i64 a1_0, .int .i64 a1_1, .int .i64 a1_2, .int .i64 a1_3], .agg #[.int .i64 a2_0, .int .i64 a2_1, .int .i64 a2_2], .int .i64 a3] w fun e w' => ∃ v0_ : Value, e = .returned (.tuple #[v0_, .int .i64 r2]) ∧ Kd.R k39 39 w' w.heap.size (fun _ => True) v0_ r1 ∧ Below w.heap.size w w' := by
 have hu26 := Try.underlying26
 have hu39 := Try.underlying39
 have HB := Aside0.mk (Below.refl w.heap.size w)
 have H := h
 unfold spec_FixedBalls.f at H
 clear h
 obtain ⟨y519, hy519⟩ : ∃ y_ : List (S39), y_ = (([(⟨a2_0, a2_1, a2_2⟩ : S39)] : List (S39))) := ⟨_, rfl⟩
 replace H : ((spec_l04Code.f k a0 a1_0 a1_1 a1_2 a1_3 y519).bind fun t522 => (if t522 = 0 then ((spec_l01In.f a3 0 3).bind fun t523 => (spec_FixedBalls.j0 k a0 a3 t522 (!t523) a1_0 a1_1 a1_2 a1_3 a2_0 a2_1 a2_2)) else (spec_FixedBalls.j0 k a0 a3 t522 false a1_0 a1_1 a1_2 a1_3 a2_0 a2_1 a2_2))) = some (r1, r2) := by first | (rw [hy519]; with_reducible exact H) | (have H2_ := (Option.bind_some _ _).symm.trans H; rw [hy519]; with_reducible exact H2_) | (have H2_ := (Option.bind_some _ _).symm.trans H; with_reducible exact H2_) | with_reducible exact H | (rw [hy519]; exact H) | exact H
 have Ny519 := Aside0.mk hy519
 clear hy519
 replace H := bS H
 obtain ⟨t522, A5, H⟩ := H
 try dsimp only at H
 have HC6 := Aside0.mk H
 clear H
 go_enter Try.func19, Try.ntmps19
 go_upto_region 2 with (first | ((with_reducible refine gate_dst (N := 5) rfl ?_); refine box_event ?hg (N := 5) ?hd (cs := #[.int .i64 a1_0, .int .i64 a1_1, .int .i64 a1_2, .int .i64 a1_3]) (t := 26) ?hr ?_; (case hd => rfl); (case hg => rfl); (case hr => first | (go_simp; done) | (go_simp; rfl)); intro gb517 hg w7 hbox hb; have n0_ := lB hb; have n1_ := Aside0.mk (hbox); have n2_ := sA hg; have n3_ := sA hg; clear HB; have HB := n0_; have BK517 := n1_; have GW517 := n2_; have GE517 := n3_; clear n0_ n1_ n2_ n3_; clear hb hbox hg) | ((with_reducible refine gate_dst (N := 6) rfl ?_); refine box_event ?hg (N := 6) ?hd (cs := #[.int .i64 a2_0, .int .i64 a2_1, .int .i64 a2_2]) (t := 39) ?hr ?_; (case hd => rfl); (case hg => rfl); (case hr => first | (go_simp; done) | (go_simp; rfl)); intro gb518 hg w8 hbox hb; have n0_ := kB BK517 hb; have n1_ := lB hb; have n2_ := Aside0.mk (hbox); have n3_ := sA hg; have n4_ := sA hg; have n5_ := nA hg BK517; have n6_ := nB hg BK517; clear BK517; clear HB; have BK517 := n0_; have HB := n1_; have BK518 := n2_; have GW518 := n3_; have GE518 := n4_; have NB517_518 := n5_; have NB518_517 := n6_; clear n0_ n1_ n2_ n3_ n4_ n5_ n6_; clear hb hbox hg; have hnb9 := NB517_518.out; have hnc9 := NB518_517.out; have hcz10_0 : w8.cell? ⟨gb517, 0, none⟩ = some (.int .i64 a1_0) := cA BK517 0; have hcz10_1 : w8.cell? ⟨gb517, 1, none⟩ = some (.int .i64 a1_1) := cA BK517 1; have hcz10_2 : w8.cell? ⟨gb517, 2, none⟩ = some (.int .i64 a1_2) := cA BK517 2; have hcz10_3 : w8.cell? ⟨gb517, 3, none⟩ = some (.int .i64 a1_3) := cA BK517 3; have hfz10_0 := blk_frozen BK517.out 0; have hfz10_1 := blk_frozen BK517.out 1; have hfz10_2 := blk_frozen BK517.out 2; have hfz10_3 := blk_frozen BK517.out 3; have hcz11_0 : w8.cell? ⟨gb518, 0, none⟩ = some (.int .i64 a2_0) := cA BK518 0; have hcz11_1 : w8.cell? ⟨gb518, 1, none⟩ = some (.int .i64 a2_1) := cA BK518 1; have hcz11_2 : w8.cell? ⟨gb518, 2, none⟩ = some (.int .i64 a2_2) := cA BK518 2; have hfz11_0 := blk_frozen BK518.out 0; have hfz11_1 := blk_frozen BK518.out 1; have hfz11_2 := blk_frozen BK518.out 2) | ((with_reducible refine gate_dst (N := 16) rfl ?_); refine Kd.R_lit k39 _ 39 ?hg (N := 16) ?hd (xs := ([(⟨a2_0, a2_1, a2_2⟩ : S39)] : List (S39))) (inner := [.int .i64 a2_0, .int .i64 a2_1, .int .i64 a2_2]) (ok := fun _ => True) (okp := fun _ => True) ?hr ?hp (fun _ hk => hk) trivial (Below.refl _ _) (Nat.le_refl _) (by simp) ?_; (case hd => rfl); (case hg => rfl); (case hr => first | (go_simp; done) | (go_simp; rfl)); (case hp => exact (Reps.c3 (show Kd.M k39 _ _ _ (⟨a2_0, a2_1, a2_2⟩ : S39) [.int .i64 a2_0, .int .i64 a2_1, .int .i64 a2_2] from (k39_mkM _ _ _ (⟨a2_0, a2_1, a2_2⟩ : S39) )) (Reps.none _ _))); intro v520 w12 ho13 hb hg_ hnew_; clear hg_ hnew_; (first | rw [← Ny519.out] at ho13 | (simp only [Int.reduceToNat] at ho13; rw [← Ny519.out] at ho13)); have n0_ := Aside0.mk (Kd.R_lower (Kd.R_newB ho13 (bkA BK518)) (below_size blA)); have n1_ := kB BK517 hb; have n2_ := kB BK518 hb; have n3_ := lB hb; clear BK517; clear BK518; clear HB; have HO521 := n0_; have BK517 := n1_; have BK518 := n2_; have HB := n3_; clear n0_ n1_ n2_ n3_; clear hb ho13; obtain ⟨Ao14, co14, eo14⟩ := Kd.R_slice HO521.out; subst eo14) | ((with_reducible refine gate_callee (f := 70) rfl ?_); refine goesL_ (some 17) rfl rfl Try.func70 (by kernel_rfl) rfl #[.int .i64 a0, .agg #[.int .i64 a1_0, .int .i64 a1_1, .int .i64 a1_2, .int .i64 a1_3], .slice Ao14 y519.length co14] rfl hA ?_; (with_reducible refine (spec_l04Code.calls k a0 a1_0 a1_1 a1_2 a1_3 _ _ y519 t522 _ ?side1 ?side2 A5.out).mono ?_); (case side1 => repeat (first | exact (Kd.R_reads' HO521.out).2.2 | (with_reducible refine Kd.C_alloc ?_ _) | (with_reducible refine Kd.C_drewN ?_ _) | (with_reducible refine Kd.C_drew ?_))); (case side2 => exact (Kd.R_reads' HO521.out).2.1); rintro e w15 ⟨rfl, hb⟩; refine ⟨_, rfl, ?_⟩; have n0_ := Aside0.mk (Kd.R_below (rA HO521) hb); have n1_ := kB BK517 hb; have n2_ := kB BK518 hb; have n3_ := lB hb; clear HO521; clear BK517; clear BK518; clear HB; have HO521 := n0_; have BK517 := n1_; have BK518 := n2_; have HB := n3_; clear n0_ n1_ n2_ n3_; (try clear hb); (try clear hb2); (try clear hk); (try clear hi)))
 (try simp only [Act.put, List.setIfInBounds_toArray, List.set_cons_zero, List.set_cons_succ])
 go_cut [24] (fun v24 wc => ∃ (kq : Nat) (x24_5 : Bool), v24 = .bool x24_5 ∧ Aside0 (spec_FixedBalls.j0 kq a0 a3 t522 x24_5 a1_0 a1_1 a1_2 a1_3 a2_0 a2_1 a2_2 = some (r1, r2)) ∧ Aside0 (kq ≤ k) ∧ Aside0 (wc.heap[gb517]? = some (.cells #[.int .i64 a1_0, .int .i64 a1_1, .int .i64 a1_2, .int .i64 a1_3] 26 (0, 0))) ∧ Aside0 (wc.heap[gb518]? = some (.cells #[.int .i64 a2_0, .int .i64 a2_1, .int .i64 a2_2] 39 (0, 0))) ∧ Aside0 (Below w.heap.size w wc))
 case first =>
  have H := HC6.out
  clear HC6
  by_cases c16 : t522 = 0
  ·
   rw [if_pos c16] at H
   have c16b0 : (t522 == 0) = true := beq_iff_eq.mpr c16
   have c16b1 : (t522 != 0) = false := bne_eq_false_iff_eq.mpr c16
   clear c16
   (first | rw [c16b0] | (simp only [i64_w, i32_w]; rw [c16b0]) | skip)
   replace H := bS H
   obtain ⟨t523, A17, H⟩ := H
   try dsimp only at H
   have H' := Aside0.mk H
   clear H
   go_wp2_with (first | (go_at_call 71; (with_reducible refine (spec_l01In.calls a3 0 3 t523 _ A17.out).mono ?_); rintro e w' ⟨rfl, ⟨nd, rfl⟩⟩))
   go_meet
   case rel => exact ⟨_, (!t523), hB, H', ⟨by first | omega | exact Nat.le_refl _⟩, ⟨bkA BK517⟩, ⟨bkA BK518⟩, ⟨blA⟩⟩
  ·
   rw [if_neg c16] at H
   have c16b0 : (t522 == 0) = false := beq_eq_false_iff_ne.mpr c16
   have c16b1 : (t522 != 0) = true := bne_iff_ne.mpr c16
   (first | rw [c16b0] | (simp only [i64_w, i32_w]; rw [c16b0]) | skip)
   have H' := Aside0.mk H
   clear H
   go_wp2
   go_meet
   case rel => exact ⟨_, (false), hB, H', ⟨by first | omega | exact Nat.le_refl _⟩, ⟨bkA BK517⟩, ⟨bkA BK518⟩, ⟨blA⟩⟩
 case rest =>
  clear HC6
  try clear c1
  try clear p2
  try clear c3
  try clear c7
  try clear c9
  try clear c16
  try clear c16b0
  try clear c16b1
  try clear hcz10_0
  try clear hcz10_1
  try clear hcz10_2
  try clear hcz10_3
  try clear hcz11_0
  try clear hcz11_1
  try clear hcz11_2
  try clear hfz10_0
  try clear hfz10_1
  try clear hfz10_2
  try clear hfz10_3
  try clear hfz11_0
  try clear hfz11_1
  try clear hfz11_2
  obtain ⟨kq, x24_5, rfl, HA, HJ5, BK517, BK518, HB⟩ := hcut
  cases kq with
  | zero => exact absurd HA.out (by simp [spec_FixedBalls.j0])
  | succ kj5 =>
   have H := HA.out
   clear HA
   simp only [spec_FixedBalls.j0] at H
   by_cases c18 : x24_5 = true
   ·
    subst c18
    rw [if_pos rfl] at H
    try dsimp only at H
    by_cases c19 : 2 = 0
    ·
     exact absurd c19 (by decide)
    ·
     rw [if_neg c19] at H
     have c19b0 : (2 == 0) = false := beq_eq_false_iff_ne.mpr c19
     have c19b1 : (2 != 0) = true := bne_iff_ne.mpr c19
     simp only [Option.some.injEq, Prod.mk.injEq] at H
     obtain ⟨rfl, rfl⟩ := H
     go_wp2
     go_ret2
     exact ⟨_, by first | rfl | (simp [errW_none, errW_some] <;> rfl) | (simp [*, errW_none, errW_some] <;> rfl), by first | exact Kd.R_nil _ _ _ _ _ | exact Kd.N_nil _ _ _ _ _ | exact Kd.V_nil _ _ _ _ _ | exact Kd.Q_nil _ _ _ _ _ | exact Kd.S_nil _ _ _ _ _, blA⟩
   ·
    replace c18 := Bool.eq_false_iff.mpr c18
    subst c18
    rw [if_neg (show ¬ (false = true) by decide)] at H
    try dsimp only at H
    by_cases c25 : t522 = 0
    ·
     rw [if_pos c25] at H
     have c25b0 : (t522 == 0) = true := beq_iff_eq.mpr c25
     have c25b1 : (t522 != 0) = false := bne_eq_false_iff_eq.mpr c25
     clear c25
     replace H := bS H
     obtain ⟨⟨t528, t531⟩, A26, H⟩ := H
     try dsimp only at H
     simp only [Option.some.injEq, Prod.mk.injEq] at H
     obtain ⟨rfl, rfl⟩ := H
     have hnb27 := NB517_518.out
     have hnc27 := NB518_517.out
     have hcz28_0 : wc.cell? ⟨gb517, 0, none⟩ = some (.int .i64 a1_0) := cA BK517 0
     have hcz28_1 : wc.cell? ⟨gb517, 1, none⟩ = some (.int .i64 a1_1) := cA BK517 1
     have hcz28_2 : wc.cell? ⟨gb517, 2, none⟩ = some (.int .i64 a1_2) := cA BK517 2
     have hcz28_3 : wc.cell? ⟨gb517, 3, none⟩ = some (.int .i64 a1_3) := cA BK517 3
     have hfz28_0 := blk_frozen BK517.out 0
     have hfz28_1 := blk_frozen BK517.out 1
     have hfz28_2 := blk_frozen BK517.out 2
     have hfz28_3 := blk_frozen BK517.out 3
     have hcz29_0 : wc.cell? ⟨gb518, 0, none⟩ = some (.int .i64 a2_0) := cA BK518 0
     have hcz29_1 : wc.cell? ⟨gb518, 1, none⟩ = some (.int .i64 a2_1) := cA BK518 1
     have hcz29_2 : wc.cell? ⟨gb518, 2, none⟩ = some (.int .i64 a2_2) := cA BK518 2
     have hfz29_0 := blk_frozen BK518.out 0
     have hfz29_1 := blk_frozen BK518.out 1
     have hfz29_2 := blk_frozen BK518.out 2
     go_wp2_with (first | ((with_reducible refine gate_callee (f := 72) rfl ?_); refine goesL_ (some 33) rfl rfl Try.func72 (by kernel_rfl) rfl #[.int .i64 a0, .agg #[.int .i64 a1_0, .int .i64 a1_1, .int .i64 a1_2, .int .i64 a1_3], .agg #[.int .i64 a2_0, .int .i64 a2_1, .int .i64 a2_2], .int .i64 a3, .int .i64 0] rfl hA ?_; (with_reducible refine (spec_l04Near.calls kj5 a0 a1_0 a1_1 a1_2 a1_3 a2_0 a2_1 a2_2 a3 0 t528 t531 _ A26.out).mono ?_); rintro e w30 ⟨v529, rfl, ho0, hb⟩; refine ⟨_, rfl, ?_⟩; have n0_ := Aside0.mk (Kd.R_lower (Kd.R_newB ho0 (bkA BK518)) (below_size blA)); have n1_ := kB BK517 hb; have n2_ := kB BK518 hb; have n3_ := lB hb; clear BK517; clear BK518; clear HB; have HO530 := n0_; have BK517 := n1_; have BK518 := n2_; have HB := n3_; clear n0_ n1_ n2_ n3_; (try clear hb); (try clear hb2); (try clear hk); (try clear hi); (try clear ho0)))
     go_ret2
     exact ⟨_, by first | rfl | (simp [errW_none, errW_some] <;> rfl) | (simp [*, errW_none, errW_some] <;> rfl), by (with_reducible repeat (first | apply Kd.R_alloc | apply Kd.R_drewN | apply Kd.R_drew)); exact Kd.R_mono HO530.out (fun _ hk => trivial), blA⟩
    ·
     rw [if_neg c25] at H
     have c25b0 : (t522 == 0) = false := beq_eq_false_iff_ne.mpr c25
     have c25b1 : (t522 != 0) = true := bne_iff_ne.mpr c25
     simp only [Option.some.injEq, Prod.mk.injEq] at H
     obtain ⟨rfl, rfl⟩ := H
     go_wp2
     go_ret2
     exact ⟨_, by first | rfl | (simp [errW_none, errW_some] <;> rfl) | (simp [*, errW_none, errW_some] <;> rfl), by first | exact Kd.R_nil _ _ _ _ _ | exact Kd.N_nil _ _ _ _ _ | exact Kd.V_nil _ _ _ _ _ | exact Kd.Q_nil _ _ _ _ _ | exact Kd.S_nil _ _ _ _ _, blA⟩
/-! ### impl_FixedBalls: function 21 -/
def impl_FixedBalls.f (k : Nat) (a0 : Int) (a1_0 : Int) (a1_1 : Int) (a1_2 : Int) (a1_3 : Int) (a2_0 : Int) (a2_1 : Int) (a2_2 : Int) (a3 : Int) : Option ((List (S39)) × Int) := (impl_nearCode.f k a0 a1_0 a1_1 a1_2 a1_3 a2_0 a2_1 a2_2 a3).bind fun t566 => (if t566 = 0 then ((impl_nearBalls.f k a0 a1_0 a1_1 a1_2 a1_3 a2_0 a2_1 a2_2 a3 0).bind fun bt567 => (some (bt567.1, bt567.2))) else (some (([] : List (S39)), t566)))
theorem impl_FixedBalls.mono : ∀ a0 a1 a2 a3 a4 a5 a6 a7 a8 k, LeO (impl_FixedBalls.f k a0 a1 a2 a3 a4 a5 a6 a7 a8) (impl_FixedBalls.f (k + 1) a0 a1 a2 a3 a4 a5 a6 a7 a8) := by
 intro a0 a1 a2 a3 a4 a5 a6 a7 a8 k
 unfold impl_FixedBalls.f
 repeat' first
   | (with_reducible exact impl_nearBalls.mono _ _ _ _ _ _ _ _ _ _ _)
   | (with_reducible exact impl_nearCode.mono _ _ _ _ _ _ _ _ _ _)
   | (with_reducible exact LeO.refl _)
   | (with_reducible exact LeO.none _)
   | (with_reducible refine LeO.ite ?_ ?_)
   | (with_reducible refine LeO.bind ?_ (fun _ => ?_))
   | exact impl_nearBalls.mono _ _ _ _ _ _ _ _ _ _ _
   | exact impl_nearCode.mono _ _ _ _ _ _ _ _ _ _
   | exact LeO.none _
   | refine LeO.ite ?_ ?_
   | refine LeO.bind ?_ (fun _ => ?_)
set_option maxHeartbeats 8000000 in
set_option maxRecDepth 100000 in
theorem impl_FixedBalls.calls (k : Nat) (a0 : Int) (a1_0 : Int) (a1_1 : Int) (a1_2 : Int) (a1_3 : Int) (a2_0 : Int) (a2_1 : Int) (a2_2 : Int) (a3 : Int) (r1 : List (S39)) (r2 : Int) (w : World) (h : impl_FixedBalls.f k a0 a1_0 a1_1 a1_2 a1_3 a2_0 a2_1 a2_2 a3 = some (r1, r2)) :
  Calls Try.prog 21 #[.int .i64 a0, .agg #[.int .i64 a1_0, .int .i64 a1_1, .int .i64 a1_2, .int .i64 a1_3], .agg #[.int .i64 a2_0, .int .i64 a2_1, .int .i64 a2_2], .int .i64 a3] w fun e w' => ∃ v0_ : Value, e = .returned (.tuple #[v0_, .int .i64 r2]) ∧ Kd.R k39 39 w' w.heap.size (fun _ => True) v0_ r1 ∧ Below w.heap.size w w' := by
 have hu26 := Try.underlying26
 have hu39 := Try.underlying39
 have HB := Aside0.mk (Below.refl w.heap.size w)
 have H := h
 unfold impl_FixedBalls.f at H
 clear h
 replace H := bS H
 obtain ⟨t566, A5, H⟩ := H
 try dsimp only at H
 by_cases c6 : t566 = 0
 ·
  rw [if_pos c6] at H
  have c6b0 : (t566 == 0) = true := beq_iff_eq.mpr c6
  have c6b1 : (t566 != 0) = false := bne_eq_false_iff_eq.mpr c6
  clear c6
  replace H := bS H
  obtain ⟨⟨t567, t570⟩, A7, H⟩ := H
  try dsimp only at H
  simp only [Option.some.injEq, Prod.mk.injEq] at H
  obtain ⟨rfl, rfl⟩ := H
  go_enter Try.func21, Try.ntmps21
  go_wp2_with (first | ((with_reducible refine gate_dst (N := 5) rfl ?_); refine box_event ?hg (N := 5) ?hd (cs := #[.int .i64 a1_0, .int .i64 a1_1, .int .i64 a1_2, .int .i64 a1_3]) (t := 26) ?hr ?_; (case hd => rfl); (case hg => rfl); (case hr => first | (go_simp; done) | (go_simp; rfl)); intro gb564 hg w8 hbox hb; have n0_ := lB hb; have n1_ := Aside0.mk (hbox); have n2_ := sA hg; have n3_ := sA hg; clear HB; have HB := n0_; have BK564 := n1_; have GW564 := n2_; have GE564 := n3_; clear n0_ n1_ n2_ n3_; clear hb hbox hg) | ((with_reducible refine gate_dst (N := 6) rfl ?_); refine box_event ?hg (N := 6) ?hd (cs := #[.int .i64 a2_0, .int .i64 a2_1, .int .i64 a2_2]) (t := 39) ?hr ?_; (case hd => rfl); (case hg => rfl); (case hr => first | (go_simp; done) | (go_simp; rfl)); intro gb565 hg w9 hbox hb; have n0_ := kB BK564 hb; have n1_ := lB hb; have n2_ := Aside0.mk (hbox); have n3_ := sA hg; have n4_ := sA hg; have n5_ := nA hg BK564; have n6_ := nB hg BK564; clear BK564; clear HB; have BK564 := n0_; have HB := n1_; have BK565 := n2_; have GW565 := n3_; have GE565 := n4_; have NB564_565 := n5_; have NB565_564 := n6_; clear n0_ n1_ n2_ n3_ n4_ n5_ n6_; clear hb hbox hg; have hnb10 := NB564_565.out; have hnc10 := NB565_564.out; have hcz11_0 : w9.cell? ⟨gb564, 0, none⟩ = some (.int .i64 a1_0) := cA BK564 0; have hcz11_1 : w9.cell? ⟨gb564, 1, none⟩ = some (.int .i64 a1_1) := cA BK564 1; have hcz11_2 : w9.cell? ⟨gb564, 2, none⟩ = some (.int .i64 a1_2) := cA BK564 2; have hcz11_3 : w9.cell? ⟨gb564, 3, none⟩ = some (.int .i64 a1_3) := cA BK564 3; have hfz11_0 := blk_frozen BK564.out 0; have hfz11_1 := blk_frozen BK564.out 1; have hfz11_2 := blk_frozen BK564.out 2; have hfz11_3 := blk_frozen BK564.out 3; have hcz12_0 : w9.cell? ⟨gb565, 0, none⟩ = some (.int .i64 a2_0) := cA BK565 0; have hcz12_1 : w9.cell? ⟨gb565, 1, none⟩ = some (.int .i64 a2_1) := cA BK565 1; have hcz12_2 : w9.cell? ⟨gb565, 2, none⟩ = some (.int .i64 a2_2) := cA BK565 2; have hfz12_0 := blk_frozen BK565.out 0; have hfz12_1 := blk_frozen BK565.out 1; have hfz12_2 := blk_frozen BK565.out 2) | ((with_reducible refine gate_callee (f := 73) rfl ?_); refine goesL_ (some 15) rfl rfl Try.func73 (by kernel_rfl) rfl #[.int .i64 a0, .agg #[.int .i64 a1_0, .int .i64 a1_1, .int .i64 a1_2, .int .i64 a1_3], .agg #[.int .i64 a2_0, .int .i64 a2_1, .int .i64 a2_2], .int .i64 a3] rfl hA ?_; (with_reducible refine (impl_nearCode.calls k a0 a1_0 a1_1 a1_2 a1_3 a2_0 a2_1 a2_2 a3 t566 _ A5.out).mono ?_); rintro e w13 ⟨rfl, hb⟩; refine ⟨_, rfl, ?_⟩; have n0_ := kB BK564 hb; have n1_ := kB BK565 hb; have n2_ := lB hb; clear BK564; clear BK565; clear HB; have BK564 := n0_; have BK565 := n1_; have HB := n2_; clear n0_ n1_ n2_; (try clear hb); (try clear hb2); (try clear hk); (try clear hi); have hcz14_0 : w13.cell? ⟨gb564, 0, none⟩ = some (.int .i64 a1_0) := cA BK564 0; have hcz14_1 : w13.cell? ⟨gb564, 1, none⟩ = some (.int .i64 a1_1) := cA BK564 1; have hcz14_2 : w13.cell? ⟨gb564, 2, none⟩ = some (.int .i64 a1_2) := cA BK564 2; have hcz14_3 : w13.cell? ⟨gb564, 3, none⟩ = some (.int .i64 a1_3) := cA BK564 3; have hfz14_0 := blk_frozen BK564.out 0; have hfz14_1 := blk_frozen BK564.out 1; have hfz14_2 := blk_frozen BK564.out 2; have hfz14_3 := blk_frozen BK564.out 3; have hcz15_0 : w13.cell? ⟨gb565, 0, none⟩ = some (.int .i64 a2_0) := cA BK565 0; have hcz15_1 : w13.cell? ⟨gb565, 1, none⟩ = some (.int .i64 a2_1) := cA BK565 1; have hcz15_2 : w13.cell? ⟨gb565, 2, none⟩ = some (.int .i64 a2_2) := cA BK565 2; have hfz15_0 := blk_frozen BK565.out 0; have hfz15_1 := blk_frozen BK565.out 1; have hfz15_2 := blk_frozen BK565.out 2) | ((with_reducible refine gate_callee (f := 74) rfl ?_); refine goesL_ (some 23) rfl rfl Try.func74 (by kernel_rfl) rfl #[.int .i64 a0, .agg #[.int .i64 a1_0, .int .i64 a1_1, .int .i64 a1_2, .int .i64 a1_3], .agg #[.int .i64 a2_0, .int .i64 a2_1, .int .i64 a2_2], .int .i64 a3, .int .i64 0] rfl hA ?_; (with_reducible refine (impl_nearBalls.calls k a0 a1_0 a1_1 a1_2 a1_3 a2_0 a2_1 a2_2 a3 0 t567 t570 _ A7.out).mono ?_); rintro e w16 ⟨v568, rfl, ho0, hb⟩; refine ⟨_, rfl, ?_⟩; have n0_ := Aside0.mk (Kd.R_lower (Kd.R_newB ho0 (bkA BK565)) (below_size blA)); have n1_ := kB BK564 hb; have n2_ := kB BK565 hb; have n3_ := lB hb; clear BK564; clear BK565; clear HB; have HO569 := n0_; have BK564 := n1_; have BK565 := n2_; have HB := n3_; clear n0_ n1_ n2_ n3_; (try clear hb); (try clear hb2); (try clear hk); (try clear hi); (try clear ho0)))
  go_ret2
  exact ⟨_, by first | rfl | (simp [errW_none, errW_some] <;> rfl) | (simp [*, errW_none, errW_some] <;> rfl), by (with_reducible repeat (first | apply Kd.R_alloc | apply Kd.R_drewN | apply Kd.R_drew)); exact Kd.R_mono HO569.out (fun _ hk => trivial), blA⟩
 ·
  rw [if_neg c6] at H
  have c6b0 : (t566 == 0) = false := beq_eq_false_iff_ne.mpr c6
  have c6b1 : (t566 != 0) = true := bne_iff_ne.mpr c6
  simp only [Option.some.injEq, Prod.mk.injEq] at H
  obtain ⟨rfl, rfl⟩ := H
  go_enter Try.func21, Try.ntmps21
  go_wp2_with (first | ((with_reducible refine gate_dst (N := 5) rfl ?_); refine box_event ?hg (N := 5) ?hd (cs := #[.int .i64 a1_0, .int .i64 a1_1, .int .i64 a1_2, .int .i64 a1_3]) (t := 26) ?hr ?_; (case hd => rfl); (case hg => rfl); (case hr => first | (go_simp; done) | (go_simp; rfl)); intro gb564 hg w17 hbox hb; have n0_ := lB hb; have n1_ := Aside0.mk (hbox); have n2_ := sA hg; have n3_ := sA hg; clear HB; have HB := n0_; have BK564 := n1_; have GW564 := n2_; have GE564 := n3_; clear n0_ n1_ n2_ n3_; clear hb hbox hg) | ((with_reducible refine gate_dst (N := 6) rfl ?_); refine box_event ?hg (N := 6) ?hd (cs := #[.int .i64 a2_0, .int .i64 a2_1, .int .i64 a2_2]) (t := 39) ?hr ?_; (case hd => rfl); (case hg => rfl); (case hr => first | (go_simp; done) | (go_simp; rfl)); intro gb565 hg w18 hbox hb; have n0_ := kB BK564 hb; have n1_ := lB hb; have n2_ := Aside0.mk (hbox); have n3_ := sA hg; have n4_ := sA hg; have n5_ := nA hg BK564; have n6_ := nB hg BK564; clear BK564; clear HB; have BK564 := n0_; have HB := n1_; have BK565 := n2_; have GW565 := n3_; have GE565 := n4_; have NB564_565 := n5_; have NB565_564 := n6_; clear n0_ n1_ n2_ n3_ n4_ n5_ n6_; clear hb hbox hg; have hnb19 := NB564_565.out; have hnc19 := NB565_564.out; have hcz20_0 : w18.cell? ⟨gb564, 0, none⟩ = some (.int .i64 a1_0) := cA BK564 0; have hcz20_1 : w18.cell? ⟨gb564, 1, none⟩ = some (.int .i64 a1_1) := cA BK564 1; have hcz20_2 : w18.cell? ⟨gb564, 2, none⟩ = some (.int .i64 a1_2) := cA BK564 2; have hcz20_3 : w18.cell? ⟨gb564, 3, none⟩ = some (.int .i64 a1_3) := cA BK564 3; have hfz20_0 := blk_frozen BK564.out 0; have hfz20_1 := blk_frozen BK564.out 1; have hfz20_2 := blk_frozen BK564.out 2; have hfz20_3 := blk_frozen BK564.out 3; have hcz21_0 : w18.cell? ⟨gb565, 0, none⟩ = some (.int .i64 a2_0) := cA BK565 0; have hcz21_1 : w18.cell? ⟨gb565, 1, none⟩ = some (.int .i64 a2_1) := cA BK565 1; have hcz21_2 : w18.cell? ⟨gb565, 2, none⟩ = some (.int .i64 a2_2) := cA BK565 2; have hfz21_0 := blk_frozen BK565.out 0; have hfz21_1 := blk_frozen BK565.out 1; have hfz21_2 := blk_frozen BK565.out 2) | ((with_reducible refine gate_callee (f := 73) rfl ?_); refine goesL_ (some 15) rfl rfl Try.func73 (by kernel_rfl) rfl #[.int .i64 a0, .agg #[.int .i64 a1_0, .int .i64 a1_1, .int .i64 a1_2, .int .i64 a1_3], .agg #[.int .i64 a2_0, .int .i64 a2_1, .int .i64 a2_2], .int .i64 a3] rfl hA ?_; (with_reducible refine (impl_nearCode.calls k a0 a1_0 a1_1 a1_2 a1_3 a2_0 a2_1 a2_2 a3 t566 _ A5.out).mono ?_); rintro e w22 ⟨rfl, hb⟩; refine ⟨_, rfl, ?_⟩; have n0_ := kB BK564 hb; have n1_ := kB BK565 hb; have n2_ := lB hb; clear BK564; clear BK565; clear HB; have BK564 := n0_; have BK565 := n1_; have HB := n2_; clear n0_ n1_ n2_; (try clear hb); (try clear hb2); (try clear hk); (try clear hi)))
  go_ret2
  exact ⟨_, by first | rfl | (simp [errW_none, errW_some] <;> rfl) | (simp [*, errW_none, errW_some] <;> rfl), by first | exact Kd.R_nil _ _ _ _ _ | exact Kd.N_nil _ _ _ _ _ | exact Kd.V_nil _ _ _ _ _ | exact Kd.Q_nil _ _ _ _ _ | exact Kd.S_nil _ _ _ _ _, blA⟩
end Go.Proofs.Ytccpccnnbacgjaa.PAll
