-- turned for this claim out of the kit's print: the same functions, packed anew
import Derived.Test.YtccpccnnbacgjaaQx
import Derived.Test.YtccpccnnbacgjaaQLtoBall
import Derived.Test.YtccpccnnbacgjaaQimplnearBalls
import Derived.Test.YtccpccnnbacgjaaQimplnearCode
import Derived.Test.YtccpccnnbacgjaaQimplneighbour
import Derived.Test.YtccpccnnbacgjaaQspecl02Join
import Derived.Test.YtccpccnnbacgjaaQspecl04Kind
import Derived.Test.YtccpccnnbacgjaaQspecl04Near
namespace Go.Proofs.Ytccpccnnbacgjaa.PAll
open Go.RowKit Go.Proofs.YtccpccnnbacgjaaW.PrintWords Go.Proofs.YtccpccnnbacgjaaW.PrintLast Go.Proofs.YtccpccnnbacgjaaW.PrintMore
attribute [local go_sem] Go.Proofs.Ytccpccnnbacgjaa.Aux.setCell_drewN Go.Proofs.Ytccpccnnbacgjaa.Aux.isSome_setCell max2_int min2_int max_two min_two max_three min_three max_four min_four   -- for this text's walks alone
set_option linter.unusedVariables false
set_option linter.unusedSimpArgs false
/-! ### spec_AxisBalls: function 25 -/
mutual
def spec_AxisBalls.j0 : Nat → Int → Int → Int → Bool → Int → Int → Int → Int → Int → Int → Int → Option ((List (S39)) × Int)
 | 0, _, _, _, _, _, _, _, _, _, _, _ => none
 | k + 1, x0, x3, x10, x26, x629000, x629001, x629002, x629003, x630000, x630001, x630002 => if x26 = true then (spec_AxisBalls.j1 k x0 x3 2 x629000 x629001 x629002 x629003 x630000 x630001 x630002) else (spec_AxisBalls.j1 k x0 x3 x10 x629000 x629001 x629002 x629003 x630000 x630001 x630002)
def spec_AxisBalls.j1 : Nat → Int → Int → Int → Int → Int → Int → Int → Int → Int → Int → Option ((List (S39)) × Int)
 | 0, _, _, _, _, _, _, _, _, _, _ => none
 | k + 1, x0, x3, x10, x629000, x629001, x629002, x629003, x630000, x630001, x630002 => if x10 = 0 then ((spec_l04Kind.f k x0 x629000 x629001 x629002 x629003).bind fun bt635 => (if bt635.1 = 2 then ((spec_l04Near.f k x0 x629000 x629001 x629002 x629003 x630000 x630001 x630002 x3 bt635.2).bind fun bt637 => (some (bt637.1, bt637.2))) else (some (([] : List (S39)), 5)))) else (some (([] : List (S39)), x10))
end
def spec_AxisBalls.f (k : Nat) (a0 : Int) (a1_0 : Int) (a1_1 : Int) (a1_2 : Int) (a1_3 : Int) (a2_0 : Int) (a2_1 : Int) (a2_2 : Int) (a3 : Int) : Option ((List (S39)) × Int) := (spec_l04Code.f k a0 a1_0 a1_1 a1_2 a1_3 (([(⟨a2_0, a2_1, a2_2⟩ : S39)] : List (S39)))).bind fun t633 => (if t633 = 0 then ((spec_l01In.f a3 0 3).bind fun t634 => (spec_AxisBalls.j0 k a0 a3 t633 (!t634) a1_0 a1_1 a1_2 a1_3 a2_0 a2_1 a2_2)) else (spec_AxisBalls.j0 k a0 a3 t633 false a1_0 a1_1 a1_2 a1_3 a2_0 a2_1 a2_2))
theorem spec_AxisBalls.mono_l : ∀ k, (∀ y0 y1 y2 y3 y4 y5 y6 y7 y8 y9 y10, LeO (spec_AxisBalls.j0 k y0 y1 y2 y3 y4 y5 y6 y7 y8 y9 y10) (spec_AxisBalls.j0 (k + 1) y0 y1 y2 y3 y4 y5 y6 y7 y8 y9 y10)) ∧ (∀ y0 y1 y2 y3 y4 y5 y6 y7 y8 y9, LeO (spec_AxisBalls.j1 k y0 y1 y2 y3 y4 y5 y6 y7 y8 y9) (spec_AxisBalls.j1 (k + 1) y0 y1 y2 y3 y4 y5 y6 y7 y8 y9))
 | 0 => ⟨fun _ _ _ _ _ _ _ _ _ _ _ r h => by simp [spec_AxisBalls.j0] at h, fun _ _ _ _ _ _ _ _ _ _ r h => by simp [spec_AxisBalls.j1] at h⟩
 | k + 1 => by
  obtain ⟨ih0, ih1⟩ := spec_AxisBalls.mono_l k
  refine ⟨?_, ?_⟩
  ·
   intro y0 y1 y2 y3 y4 y5 y6 y7 y8 y9 y10
   unfold spec_AxisBalls.j0
   repeat' first
   | (with_reducible exact ih0 _ _ _ _ _ _ _ _ _ _ _)
   | (with_reducible exact ih1 _ _ _ _ _ _ _ _ _ _)
   | (with_reducible exact spec_l04Code.mono _ _ _ _ _ _ _)
   | (with_reducible exact spec_l04Kind.mono _ _ _ _ _ _)
   | (with_reducible exact spec_l04Near.mono _ _ _ _ _ _ _ _ _ _ _)
   | (with_reducible exact LeO.refl _)
   | (with_reducible exact LeO.none _)
   | (with_reducible refine LeO.ite ?_ ?_)
   | (with_reducible refine LeO.bind ?_ (fun _ => ?_))
  ·
   intro y0 y1 y2 y3 y4 y5 y6 y7 y8 y9
   unfold spec_AxisBalls.j1
   repeat' first
   | (with_reducible exact ih0 _ _ _ _ _ _ _ _ _ _ _)
   | (with_reducible exact ih1 _ _ _ _ _ _ _ _ _ _)
   | (with_reducible exact spec_l04Code.mono _ _ _ _ _ _ _)
   | (with_reducible exact spec_l04Kind.mono _ _ _ _ _ _)
   | (with_reducible exact spec_l04Near.mono _ _ _ _ _ _ _ _ _ _ _)
   | (with_reducible exact LeO.refl _)
   | (with_reducible exact LeO.none _)
   | (with_reducible refine LeO.ite ?_ ?_)
   | (with_reducible refine LeO.bind ?_ (fun _ => ?_))
theorem spec_AxisBalls.mono : ∀ a0 a1 a2 a3 a4 a5 a6 a7 a8 k, LeO (spec_AxisBalls.f k a0 a1 a2 a3 a4 a5 a6 a7 a8) (spec_AxisBalls.f (k + 1) a0 a1 a2 a3 a4 a5 a6 a7 a8) := by
 intro a0 a1 a2 a3 a4 a5 a6 a7 a8 k
 obtain ⟨ih0, ih1⟩ := spec_AxisBalls.mono_l k
 unfold spec_AxisBalls.f
 repeat' first
   | (with_reducible exact ih0 _ _ _ _ _ _ _ _ _ _ _)
   | (with_reducible exact ih1 _ _ _ _ _ _ _ _ _ _)
   | (with_reducible exact spec_l04Code.mono _ _ _ _ _ _ _)
   | (with_reducible exact spec_l04Kind.mono _ _ _ _ _ _)
   | (with_reducible exact spec_l04Near.mono _ _ _ _ _ _ _ _ _ _ _)
   | (with_reducible exact LeO.refl _)
   | (with_reducible exact LeO.none _)
   | (with_reducible refine LeO.ite ?_ ?_)
   | (with_reducible refine LeO.bind ?_ (fun _ => ?_))
set_option maxHeartbeats 8000000 in
set_option maxRecDepth 100000 in
theorem spec_AxisBalls.calls (k : Nat) (a0 : Int) (a1_0 : Int) (a1_1 : Int) (a1_2 : Int) (a1_3 : Int) (a2_0 : Int) (a2_1 : Int) (a2_2 : Int) (a3 : Int) (r1 : List (S39)) (r2 : Int) (w : World) (h : spec_AxisBalls.f k a0 a1_0 a1_1 a1_2 a1_3 a2_0 a2_1 a2_2 a3 = some (r1, r2)) :
  Calls Try.prog 25 #[.int .i64 a0, .agg #[.int .i64 a1_0, .int .i64 a1_1, .int .i64 a1_2, .int .i64 a1_3], .agg #[.int .i64 a2_0, .int .i64 a2_1, .int .i64 a2_2], .int .i64 a3] w fun e w' => ∃ v0_ : Value, e = .returned (.tuple #[v0_, .int .i64 r2]) ∧ Kd.R k39 39 w' w.heap.size (fun _ => True) v0_ r1 ∧ Below w.heap.size w w' := by
 have hu26 := Try.underlying26
 have hu39 := Try.underlying39
 have HB := Aside0.mk (Below.refl w.heap.size w)
 have H := h
 unfold spec_AxisBalls.f at H
 clear h
 obtain ⟨y630, hy630⟩ : ∃ y_ : List (S39), y_ = (([(⟨a2_0, a2_1, a2_2⟩ : S39)] : List (S39))) := ⟨_, rfl⟩
 replace H : ((spec_l04Code.f k a0 a1_0 a1_1 a1_2 a1_3 y630).bind fun t633 => (if t633 = 0 then ((spec_l01In.f a3 0 3).bind fun t634 => (spec_AxisBalls.j0 k a0 a3 t633 (!t634) a1_0 a1_1 a1_2 a1_3 a2_0 a2_1 a2_2)) else (spec_AxisBalls.j0 k a0 a3 t633 false a1_0 a1_1 a1_2 a1_3 a2_0 a2_1 a2_2))) = some (r1, r2) := by first | (rw [hy630]; with_reducible exact H) | (have H2_ := (Option.bind_some _ _).symm.trans H; rw [hy630]; with_reducible exact H2_) | (have H2_ := (Option.bind_some _ _).symm.trans H; with_reducible exact H2_) | with_reducible exact H | (rw [hy630]; exact H) | exact H
 have Ny630 := Aside0.mk hy630
 clear hy630
 replace H := bS H
 obtain ⟨t633, A5, H⟩ := H
 try dsimp only at H
 have HC6 := Aside0.mk H
 clear H
 go_enter Try.func25, Try.ntmps25
 go_upto_region 2 with (first | ((with_reducible refine gate_dst (N := 5) rfl ?_); refine box_event ?hg (N := 5) ?hd (cs := #[.int .i64 a1_0, .int .i64 a1_1, .int .i64 a1_2, .int .i64 a1_3]) (t := 26) ?hr ?_; (case hd => rfl); (case hg => rfl); (case hr => first | (go_simp; done) | (go_simp; rfl)); intro gb628 hg w7 hbox hb; have BK628 := Aside0.mk (hbox); have GW628 := sA hg; have GE628 := sA hg; replace HB := lB hb; clear hb hbox hg) | ((with_reducible refine gate_dst (N := 6) rfl ?_); refine box_event ?hg (N := 6) ?hd (cs := #[.int .i64 a2_0, .int .i64 a2_1, .int .i64 a2_2]) (t := 39) ?hr ?_; (case hd => rfl); (case hg => rfl); (case hr => first | (go_simp; done) | (go_simp; rfl)); intro gb629 hg w8 hbox hb; have BK629 := Aside0.mk (hbox); have GW629 := sA hg; have GE629 := sA hg; have NB628_629 := nA hg BK628; have NB629_628 := nB hg BK628; replace BK628 := kB BK628 hb; replace HB := lB hb; clear hb hbox hg; have hnb9 := NB628_629.out; have hnc9 := NB629_628.out; have hcz10_0 : w8.cell? ⟨gb628, 0, none⟩ = some (.int .i64 a1_0) := cA BK628 0; have hcz10_1 : w8.cell? ⟨gb628, 1, none⟩ = some (.int .i64 a1_1) := cA BK628 1; have hcz10_2 : w8.cell? ⟨gb628, 2, none⟩ = some (.int .i64 a1_2) := cA BK628 2; have hcz10_3 : w8.cell? ⟨gb628, 3, none⟩ = some (.int .i64 a1_3) := cA BK628 3; have hfz10_0 := blk_frozen BK628.out 0; have hfz10_1 := blk_frozen BK628.out 1; have hfz10_2 := blk_frozen BK628.out 2; have hfz10_3 := blk_frozen BK628.out 3; have hcz11_0 : w8.cell? ⟨gb629, 0, none⟩ = some (.int .i64 a2_0) := cA BK629 0; have hcz11_1 : w8.cell? ⟨gb629, 1, none⟩ = some (.int .i64 a2_1) := cA BK629 1; have hcz11_2 : w8.cell? ⟨gb629, 2, none⟩ = some (.int .i64 a2_2) := cA BK629 2; have hfz11_0 := blk_frozen BK629.out 0; have hfz11_1 := blk_frozen BK629.out 1; have hfz11_2 := blk_frozen BK629.out 2) | ((with_reducible refine gate_dst (N := 18) rfl ?_); refine Kd.R_lit k39 _ 39 ?hg (N := 18) ?hd (xs := ([(⟨a2_0, a2_1, a2_2⟩ : S39)] : List (S39))) (inner := [.int .i64 a2_0, .int .i64 a2_1, .int .i64 a2_2]) (ok := fun _ => True) (okp := fun _ => True) ?hr ?hp (fun _ hk => hk) trivial (Below.refl _ _) (Nat.le_refl _) (by simp) ?_; (case hd => rfl); (case hg => rfl); (case hr => first | (go_simp; done) | (go_simp; rfl)); (case hp => exact (Reps.c3 (show Kd.M k39 _ _ _ (⟨a2_0, a2_1, a2_2⟩ : S39) [.int .i64 a2_0, .int .i64 a2_1, .int .i64 a2_2] from (k39_mkM _ _ _ (⟨a2_0, a2_1, a2_2⟩ : S39) )) (Reps.none _ _))); intro v631 w12 ho13 hb hg_ hnew_; clear hg_ hnew_; (first | rw [← Ny630.out] at ho13 | (simp only [Int.reduceToNat] at ho13; rw [← Ny630.out] at ho13)); have HO632 := Aside0.mk (Kd.R_lower (Kd.R_newB ho13 (bkA BK629)) (below_size blA)); replace BK628 := kB BK628 hb; replace BK629 := kB BK629 hb; replace HB := lB hb; clear hb ho13; obtain ⟨Ao14, co14, eo14⟩ := Kd.R_slice HO632.out; subst eo14) | ((with_reducible refine gate_callee (f := 70) rfl ?_); refine goesL_ (some 19) rfl rfl Try.func70 (by kernel_rfl) rfl #[.int .i64 a0, .agg #[.int .i64 a1_0, .int .i64 a1_1, .int .i64 a1_2, .int .i64 a1_3], .slice Ao14 y630.length co14] rfl hA ?_; (with_reducible refine (spec_l04Code.calls k a0 a1_0 a1_1 a1_2 a1_3 _ _ y630 t633 _ ?side1 ?side2 A5.out).mono ?_); (case side1 => repeat (first | exact (Kd.R_reads' HO632.out).2.2 | (with_reducible refine Kd.C_alloc ?_ _) | (with_reducible refine Kd.C_drewN ?_ _) | (with_reducible refine Kd.C_drew ?_))); (case side2 => exact (Kd.R_reads' HO632.out).2.1); rintro e w15 ⟨rfl, hb⟩; refine ⟨_, rfl, ?_⟩; replace HO632 := Aside0.mk (Kd.R_below (rA HO632) hb); replace BK628 := kB BK628 hb; replace BK629 := kB BK629 hb; replace HB := lB hb; (try clear hb); (try clear hb2); (try clear hk); (try clear hi)))
 (try simp only [Act.put, List.setIfInBounds_toArray, List.set_cons_zero, List.set_cons_succ])
 go_cut [26] (fun v26 wc => ∃ (kq : Nat) (x26_5 : Bool), v26 = .bool x26_5 ∧ Aside0 (spec_AxisBalls.j0 kq a0 a3 t633 x26_5 a1_0 a1_1 a1_2 a1_3 a2_0 a2_1 a2_2 = some (r1, r2)) ∧ Aside0 (kq ≤ k) ∧ Aside0 (wc.heap[gb628]? = some (.cells #[.int .i64 a1_0, .int .i64 a1_1, .int .i64 a1_2, .int .i64 a1_3] 26 (0, 0))) ∧ Aside0 (wc.heap[gb629]? = some (.cells #[.int .i64 a2_0, .int .i64 a2_1, .int .i64 a2_2] 39 (0, 0))) ∧ Aside0 (Below w.heap.size w wc))
 case first =>
  have H := HC6.out
  clear HC6
  by_cases c16 : t633 = 0
  ·
   rw [if_pos c16] at H
   have c16b0 : (t633 == 0) = true := beq_iff_eq.mpr c16
   have c16b1 : (t633 != 0) = false := bne_eq_false_iff_eq.mpr c16
   clear c16
   (first | rw [c16b0] | (simp only [i64_w, i32_w]; rw [c16b0]) | skip)
   replace H := bS H
   obtain ⟨t634, A17, H⟩ := H
   try dsimp only at H
   have H' := Aside0.mk H
   clear H
   go_wp2_with (first | (go_at_call 71; (with_reducible refine (spec_l01In.calls a3 0 3 t634 _ A17.out).mono ?_); rintro e w' ⟨rfl, ⟨nd, rfl⟩⟩))
   go_meet
   case rel => exact ⟨_, (!t634), hB, H', ⟨by first | omega | exact Nat.le_refl _⟩, ⟨bkA BK628⟩, ⟨bkA BK629⟩, ⟨blA⟩⟩
  ·
   rw [if_neg c16] at H
   have c16b0 : (t633 == 0) = false := beq_eq_false_iff_ne.mpr c16
   have c16b1 : (t633 != 0) = true := bne_iff_ne.mpr c16
   (first | rw [c16b0] | (simp only [i64_w, i32_w]; rw [c16b0]) | skip)
   have H' := Aside0.mk H
   clear H
   go_wp2
   go_meet
   case rel => exact ⟨_, (false), hB, H', ⟨by first | omega | exact Nat.le_refl _⟩, ⟨bkA BK628⟩, ⟨bkA BK629⟩, ⟨blA⟩⟩
 case rest =>
  clear HC6
  try clear c3
  try clear c16
  try clear c16b0
  try clear c16b1
  try clear hcz10_0
  try clear hcz10_1
  try clear hcz10_2
  try clear hcz10_3
  try clear hcz11_0
  try clear hcz11_1
  try clear hcz11_2
  try clear hfz10_0
  try clear hfz10_1
  try clear hfz10_2
  try clear hfz10_3
  try clear hfz11_0
  try clear hfz11_1
  try clear hfz11_2
  obtain ⟨kq, x26_5, rfl, HA, HJ5, BK628, BK629, HB⟩ := hcut
  cases kq with
  | zero => exact absurd HA.out (by simp [spec_AxisBalls.j0])
  | succ kj5 =>
   have H := HA.out
   clear HA
   simp only [spec_AxisBalls.j0] at H
   have HC18 := Aside0.mk H
   clear H
   go_upto_if 26 with (fail)
   go_cut [10] (fun v10 wc => ∃ (kq : Nat) (x10_17 : Int), v10 = .int .i64 x10_17 ∧ Aside0 (spec_AxisBalls.j1 kq a0 a3 x10_17 a1_0 a1_1 a1_2 a1_3 a2_0 a2_1 a2_2 = some (r1, r2)) ∧ Aside0 (kq ≤ kj5) ∧ Aside0 (wc.heap[gb628]? = some (.cells #[.int .i64 a1_0, .int .i64 a1_1, .int .i64 a1_2, .int .i64 a1_3] 26 (0, 0))) ∧ Aside0 (wc.heap[gb629]? = some (.cells #[.int .i64 a2_0, .int .i64 a2_1, .int .i64 a2_2] 39 (0, 0))) ∧ Aside0 (Below w.heap.size w wc))
   case first =>
    have H := HC18.out
    clear HC18
    by_cases c19 : x26_5 = true
    ·
     subst c19
     rw [if_pos rfl] at H
     try dsimp only at H
     have H' := Aside0.mk H
     clear H
     go_wp2
     go_meet
     case rel => exact ⟨_, (2), hB, H', ⟨by have := HJ5.out; first | omega | exact Nat.le_refl _⟩, ⟨bkA BK628⟩, ⟨bkA BK629⟩, ⟨blA⟩⟩
    ·
     replace c19 := Bool.eq_false_iff.mpr c19
     subst c19
     rw [if_neg (show ¬ (false = true) by decide)] at H
     try dsimp only at H
     have H' := Aside0.mk H
     clear H
     go_wp2
     go_meet
     case rel => exact ⟨_, (t633), hB, H', ⟨by have := HJ5.out; first | omega | exact Nat.le_refl _⟩, ⟨bkA BK628⟩, ⟨bkA BK629⟩, ⟨blA⟩⟩
   case rest =>
    clear HC18
    try clear c3
    try clear c16
    try clear c16b0
    try clear c16b1
    try clear c19
    try clear hcz10_0
    try clear hcz10_1
    try clear hcz10_2
    try clear hcz10_3
    try clear hcz11_0
    try clear hcz11_1
    try clear hcz11_2
    try clear hfz10_0
    try clear hfz10_1
    try clear hfz10_2
    try clear hfz10_3
    try clear hfz11_0
    try clear hfz11_1
    try clear hfz11_2
    obtain ⟨kq, x10_17, rfl, HA, HJ17, BK628, BK629, HB⟩ := hcut
    cases kq with
    | zero => exact absurd HA.out (by simp [spec_AxisBalls.j1])
    | succ kj17 =>
     have H := HA.out
     clear HA
     simp only [spec_AxisBalls.j1] at H
     by_cases c20 : x10_17 = 0
     ·
      rw [if_pos c20] at H
      have c20b0 : (x10_17 == 0) = true := beq_iff_eq.mpr c20
      have c20b1 : (x10_17 != 0) = false := bne_eq_false_iff_eq.mpr c20
      clear c20
      replace H := bS H
      obtain ⟨⟨t635, t636⟩, A21, H⟩ := H
      try dsimp only at H
      by_cases c22 : t635 = 2
      ·
       rw [if_pos c22] at H
       have c22b0 : (t635 == 2) = true := beq_iff_eq.mpr c22
       have c22b1 : (t635 != 2) = false := bne_eq_false_iff_eq.mpr c22
       clear c22
       replace H := bS H
       obtain ⟨⟨t637, t640⟩, A23, H⟩ := H
       try dsimp only at H
       simp only [Option.some.injEq, Prod.mk.injEq] at H
       obtain ⟨rfl, rfl⟩ := H
       have hnb24 := NB628_629.out
       have hnc24 := NB629_628.out
       have hcz25_0 : wc.cell? ⟨gb628, 0, none⟩ = some (.int .i64 a1_0) := cA BK628 0
       have hcz25_1 : wc.cell? ⟨gb628, 1, none⟩ = some (.int .i64 a1_1) := cA BK628 1
       have hcz25_2 : wc.cell? ⟨gb628, 2, none⟩ = some (.int .i64 a1_2) := cA BK628 2
       have hcz25_3 : wc.cell? ⟨gb628, 3, none⟩ = some (.int .i64 a1_3) := cA BK628 3
       have hfz25_0 := blk_frozen BK628.out 0
       have hfz25_1 := blk_frozen BK628.out 1
       have hfz25_2 := blk_frozen BK628.out 2
       have hfz25_3 := blk_frozen BK628.out 3
       go_wp2_with (first | ((with_reducible refine gate_callee (f := 76) rfl ?_); refine goesL_ (some 33) rfl rfl Try.func76 (by kernel_rfl) rfl #[.int .i64 a0, .agg #[.int .i64 a1_0, .int .i64 a1_1, .int .i64 a1_2, .int .i64 a1_3]] rfl hA ?_; (with_reducible refine (spec_l04Kind.calls kj17 a0 a1_0 a1_1 a1_2 a1_3 t635 t636 _ A21.out).mono ?_); rintro e w26 ⟨rfl, hb⟩; refine ⟨_, rfl, ?_⟩; replace BK628 := kB BK628 hb; replace BK629 := kB BK629 hb; replace HB := lB hb; (try clear hb); (try clear hb2); (try clear hk); (try clear hi); have hcz27_0 : w26.cell? ⟨gb628, 0, none⟩ = some (.int .i64 a1_0) := cA BK628 0; have hcz27_1 : w26.cell? ⟨gb628, 1, none⟩ = some (.int .i64 a1_1) := cA BK628 1; have hcz27_2 : w26.cell? ⟨gb628, 2, none⟩ = some (.int .i64 a1_2) := cA BK628 2; have hcz27_3 : w26.cell? ⟨gb628, 3, none⟩ = some (.int .i64 a1_3) := cA BK628 3; have hfz27_0 := blk_frozen BK628.out 0; have hfz27_1 := blk_frozen BK628.out 1; have hfz27_2 := blk_frozen BK628.out 2; have hfz27_3 := blk_frozen BK628.out 3; have hcz28_0 : w26.cell? ⟨gb629, 0, none⟩ = some (.int .i64 a2_0) := cA BK629 0; have hcz28_1 : w26.cell? ⟨gb629, 1, none⟩ = some (.int .i64 a2_1) := cA BK629 1; have hcz28_2 : w26.cell? ⟨gb629, 2, none⟩ = some (.int .i64 a2_2) := cA BK629 2; have hfz28_0 := blk_frozen BK629.out 0; have hfz28_1 := blk_frozen BK629.out 1; have hfz28_2 := blk_frozen BK629.out 2) | ((with_reducible refine gate_callee (f := 72) rfl ?_); refine goesL_ (some 44) rfl rfl Try.func72 (by kernel_rfl) rfl #[.int .i64 a0, .agg #[.int .i64 a1_0, .int .i64 a1_1, .int .i64 a1_2, .int .i64 a1_3], .agg #[.int .i64 a2_0, .int .i64 a2_1, .int .i64 a2_2], .int .i64 a3, .int .i64 t636] rfl hA ?_; (with_reducible refine (spec_l04Near.calls kj17 a0 a1_0 a1_1 a1_2 a1_3 a2_0 a2_1 a2_2 a3 t636 t637 t640 _ A23.out).mono ?_); rintro e w29 ⟨v638, rfl, ho0, hb⟩; refine ⟨_, rfl, ?_⟩; have HO639 := Aside0.mk (Kd.R_lower (Kd.R_newB ho0 (bkA BK629)) (below_size blA)); replace BK628 := kB BK628 hb; replace BK629 := kB BK629 hb; replace HB := lB hb; (try clear hb); (try clear hb2); (try clear hk); (try clear hi); (try clear ho0)))
       go_ret2
       exact ⟨_, by first | rfl | (simp [errW_none, errW_some] <;> rfl) | (simp [*, errW_none, errW_some] <;> rfl), by (with_reducible repeat (first | apply Kd.R_alloc | apply Kd.R_drewN | apply Kd.R_drew)); exact Kd.R_mono HO639.out (fun _ hk => trivial), blA⟩
      ·
       rw [if_neg c22] at H
       have c22b0 : (t635 == 2) = false := beq_eq_false_iff_ne.mpr c22
       have c22b1 : (t635 != 2) = true := bne_iff_ne.mpr c22
       simp only [Option.some.injEq, Prod.mk.injEq] at H
       obtain ⟨rfl, rfl⟩ := H
       have hnb30 := NB628_629.out
       have hnc30 := NB629_628.out
       have hcz31_0 : wc.cell? ⟨gb628, 0, none⟩ = some (.int .i64 a1_0) := cA BK628 0
       have hcz31_1 : wc.cell? ⟨gb628, 1, none⟩ = some (.int .i64 a1_1) := cA BK628 1
       have hcz31_2 : wc.cell? ⟨gb628, 2, none⟩ = some (.int .i64 a1_2) := cA BK628 2
       have hcz31_3 : wc.cell? ⟨gb628, 3, none⟩ = some (.int .i64 a1_3) := cA BK628 3
       have hfz31_0 := blk_frozen BK628.out 0
       have hfz31_1 := blk_frozen BK628.out 1
       have hfz31_2 := blk_frozen BK628.out 2
       have hfz31_3 := blk_frozen BK628.out 3
       go_wp2_with (first | ((with_reducible refine gate_callee (f := 76) rfl ?_); refine goesL_ (some 33) rfl rfl Try.func76 (by kernel_rfl) rfl #[.int .i64 a0, .agg #[.int .i64 a1_0, .int .i64 a1_1, .int .i64 a1_2, .int .i64 a1_3]] rfl hA ?_; (with_reducible refine (spec_l04Kind.calls kj17 a0 a1_0 a1_1 a1_2 a1_3 t635 t636 _ A21.out).mono ?_); rintro e w32 ⟨rfl, hb⟩; refine ⟨_, rfl, ?_⟩; replace BK628 := kB BK628 hb; replace BK629 := kB BK629 hb; replace HB := lB hb; (try clear hb); (try clear hb2); (try clear hk); (try clear hi)))
       go_ret2
       exact ⟨_, by first | rfl | (simp [errW_none, errW_some] <;> rfl) | (simp [*, errW_none, errW_some] <;> rfl), by first | exact Kd.R_nil _ _ _ _ _ | exact Kd.N_nil _ _ _ _ _ | exact Kd.V_nil _ _ _ _ _ | exact Kd.Q_nil _ _ _ _ _ | exact Kd.S_nil _ _ _ _ _, blA⟩
     ·
      rw [if_neg c20] at H
      have c20b0 : (x10_17 == 0) = false := beq_eq_false_iff_ne.mpr c20
      have c20b1 : (x10_17 != 0) = true := bne_iff_ne.mpr c20
      simp only [Option.some.injEq, Prod.mk.injEq] at H
      obtain ⟨rfl, rfl⟩ := H
      go_wp2
      go_ret2
      exact ⟨_, by first | rfl | (simp [errW_none, errW_some] <;> rfl) | (simp [*, errW_none, errW_some] <;> rfl), by first | exact Kd.R_nil _ _ _ _ _ | exact Kd.N_nil _ _ _ _ _ | exact Kd.V_nil _ _ _ _ _ | exact Kd.Q_nil _ _ _ _ _ | exact Kd.S_nil _ _ _ _ _, blA⟩
/-! ### impl_AxisBalls: function 26 -/
def impl_AxisBalls.f (k : Nat) (a0 : Int) (a1_0 : Int) (a1_1 : Int) (a1_2 : Int) (a1_3 : Int) (a2_0 : Int) (a2_1 : Int) (a2_2 : Int) (a3 : Int) : Option ((List (S39)) × Int) := (impl_nearCode.f k a0 a1_0 a1_1 a1_2 a1_3 a2_0 a2_1 a2_2 a3).bind fun t647 => (if t647 = 0 then ((impl_lengthOf.f k a0 a1_0 a1_1 a1_2 a1_3).bind fun bt648 => (if bt648.2 = 2 then ((impl_nearBalls.f k a0 a1_0 a1_1 a1_2 a1_3 a2_0 a2_1 a2_2 a3 bt648.1).bind fun bt650 => (some (bt650.1, bt650.2))) else (some (([] : List (S39)), 5)))) else (some (([] : List (S39)), t647)))
theorem impl_AxisBalls.mono : ∀ a0 a1 a2 a3 a4 a5 a6 a7 a8 k, LeO (impl_AxisBalls.f k a0 a1 a2 a3 a4 a5 a6 a7 a8) (impl_AxisBalls.f (k + 1) a0 a1 a2 a3 a4 a5 a6 a7 a8) := by
 intro a0 a1 a2 a3 a4 a5 a6 a7 a8 k
 unfold impl_AxisBalls.f
 repeat' first
   | (with_reducible exact impl_lengthOf.mono _ _ _ _ _ _)
   | (with_reducible exact impl_nearBalls.mono _ _ _ _ _ _ _ _ _ _ _)
   | (with_reducible exact impl_nearCode.mono _ _ _ _ _ _ _ _ _ _)
   | (with_reducible exact LeO.refl _)
   | (with_reducible exact LeO.none _)
   | (with_reducible refine LeO.ite ?_ ?_)
   | (with_reducible refine LeO.bind ?_ (fun _ => ?_))
set_option maxHeartbeats 8000000 in
set_option maxRecDepth 100000 in
theorem impl_AxisBalls.calls (k : Nat) (a0 : Int) (a1_0 : Int) (a1_1 : Int) (a1_2 : Int) (a1_3 : Int) (a2_0 : Int) (a2_1 : Int) (a2_2 : Int) (a3 : Int) (r1 : List (S39)) (r2 : Int) (w : World) (h : impl_AxisBalls.f k a0 a1_0 a1_1 a1_2 a1_3 a2_0 a2_1 a2_2 a3 = some (r1, r2)) :
  Calls Try.prog 26 #[.int .i64 a0, .agg #[.int .i64 a1_0, .int .i64 a1_1, .int .i64 a1_2, .int .i64 a1_3], .agg #[.int .i64 a2_0, .int .i64 a2_1, .int .i64 a2_2], .int .i64 a3] w fun e w' => ∃ v0_ : Value, e = .returned (.tuple #[v0_, .int .i64 r2]) ∧ Kd.R k39 39 w' w.heap.size (fun _ => True) v0_ r1 ∧ Below w.heap.size w w' := by
 have hu26 := Try.underlying26
 have hu39 := Try.underlying39
 have HB := Aside0.mk (Below.refl w.heap.size w)
 have H := h
 unfold impl_AxisBalls.f at H
 clear h
 replace H := bS H
 obtain ⟨t647, A5, H⟩ := H
 try dsimp only at H
 by_cases c6 : t647 = 0
 ·
  rw [if_pos c6] at H
  have c6b0 : (t647 == 0) = true := beq_iff_eq.mpr c6
  have c6b1 : (t647 != 0) = false := bne_eq_false_iff_eq.mpr c6
  clear c6
  replace H := bS H
  obtain ⟨⟨t648, t649⟩, A7, H⟩ := H
  try dsimp only at H
  by_cases c8 : t649 = 2
  ·
   rw [if_pos c8] at H
   have c8b0 : (t649 == 2) = true := beq_iff_eq.mpr c8
   have c8b1 : (t649 != 2) = false := bne_eq_false_iff_eq.mpr c8
   clear c8
   replace H := bS H
   obtain ⟨⟨t650, t653⟩, A9, H⟩ := H
   try dsimp only at H
   simp only [Option.some.injEq, Prod.mk.injEq] at H
   obtain ⟨rfl, rfl⟩ := H
   go_enter Try.func26, Try.ntmps26
   go_wp2_with (first | ((with_reducible refine gate_dst (N := 5) rfl ?_); refine box_event ?hg (N := 5) ?hd (cs := #[.int .i64 a1_0, .int .i64 a1_1, .int .i64 a1_2, .int .i64 a1_3]) (t := 26) ?hr ?_; (case hd => rfl); (case hg => rfl); (case hr => first | (go_simp; done) | (go_simp; rfl)); intro gb645 hg w10 hbox hb; have BK645 := Aside0.mk (hbox); have GW645 := sA hg; have GE645 := sA hg; replace HB := lB hb; clear hb hbox hg) | ((with_reducible refine gate_dst (N := 6) rfl ?_); refine box_event ?hg (N := 6) ?hd (cs := #[.int .i64 a2_0, .int .i64 a2_1, .int .i64 a2_2]) (t := 39) ?hr ?_; (case hd => rfl); (case hg => rfl); (case hr => first | (go_simp; done) | (go_simp; rfl)); intro gb646 hg w11 hbox hb; have BK646 := Aside0.mk (hbox); have GW646 := sA hg; have GE646 := sA hg; have NB645_646 := nA hg BK645; have NB646_645 := nB hg BK645; replace BK645 := kB BK645 hb; replace HB := lB hb; clear hb hbox hg; have hnb12 := NB645_646.out; have hnc12 := NB646_645.out; have hcz13_0 : w11.cell? ⟨gb645, 0, none⟩ = some (.int .i64 a1_0) := cA BK645 0; have hcz13_1 : w11.cell? ⟨gb645, 1, none⟩ = some (.int .i64 a1_1) := cA BK645 1; have hcz13_2 : w11.cell? ⟨gb645, 2, none⟩ = some (.int .i64 a1_2) := cA BK645 2; have hcz13_3 : w11.cell? ⟨gb645, 3, none⟩ = some (.int .i64 a1_3) := cA BK645 3; have hfz13_0 := blk_frozen BK645.out 0; have hfz13_1 := blk_frozen BK645.out 1; have hfz13_2 := blk_frozen BK645.out 2; have hfz13_3 := blk_frozen BK645.out 3; have hcz14_0 : w11.cell? ⟨gb646, 0, none⟩ = some (.int .i64 a2_0) := cA BK646 0; have hcz14_1 : w11.cell? ⟨gb646, 1, none⟩ = some (.int .i64 a2_1) := cA BK646 1; have hcz14_2 : w11.cell? ⟨gb646, 2, none⟩ = some (.int .i64 a2_2) := cA BK646 2; have hfz14_0 := blk_frozen BK646.out 0; have hfz14_1 := blk_frozen BK646.out 1; have hfz14_2 := blk_frozen BK646.out 2) | ((with_reducible refine gate_callee (f := 73) rfl ?_); refine goesL_ (some 17) rfl rfl Try.func73 (by kernel_rfl) rfl #[.int .i64 a0, .agg #[.int .i64 a1_0, .int .i64 a1_1, .int .i64 a1_2, .int .i64 a1_3], .agg #[.int .i64 a2_0, .int .i64 a2_1, .int .i64 a2_2], .int .i64 a3] rfl hA ?_; (with_reducible refine (impl_nearCode.calls k a0 a1_0 a1_1 a1_2 a1_3 a2_0 a2_1 a2_2 a3 t647 _ A5.out).mono ?_); rintro e w15 ⟨rfl, hb⟩; refine ⟨_, rfl, ?_⟩; replace BK645 := kB BK645 hb; replace BK646 := kB BK646 hb; replace HB := lB hb; (try clear hb); (try clear hb2); (try clear hk); (try clear hi); have hcz16_0 : w15.cell? ⟨gb645, 0, none⟩ = some (.int .i64 a1_0) := cA BK645 0; have hcz16_1 : w15.cell? ⟨gb645, 1, none⟩ = some (.int .i64 a1_1) := cA BK645 1; have hcz16_2 : w15.cell? ⟨gb645, 2, none⟩ = some (.int .i64 a1_2) := cA BK645 2; have hcz16_3 : w15.cell? ⟨gb645, 3, none⟩ = some (.int .i64 a1_3) := cA BK645 3; have hfz16_0 := blk_frozen BK645.out 0; have hfz16_1 := blk_frozen BK645.out 1; have hfz16_2 := blk_frozen BK645.out 2; have hfz16_3 := blk_frozen BK645.out 3) | ((with_reducible refine gate_callee (f := 77) rfl ?_); refine goesL_ (some 24) rfl rfl Try.func77 (by kernel_rfl) rfl #[.int .i64 a0, .agg #[.int .i64 a1_0, .int .i64 a1_1, .int .i64 a1_2, .int .i64 a1_3]] rfl hA ?_; (with_reducible refine (impl_lengthOf.calls k a0 a1_0 a1_1 a1_2 a1_3 t648 t649 _ A7.out).mono ?_); rintro e w17 ⟨rfl, hb⟩; refine ⟨_, rfl, ?_⟩; replace BK645 := kB BK645 hb; replace BK646 := kB BK646 hb; replace HB := lB hb; (try clear hb); (try clear hb2); (try clear hk); (try clear hi); have hcz18_0 : w17.cell? ⟨gb645, 0, none⟩ = some (.int .i64 a1_0) := cA BK645 0; have hcz18_1 : w17.cell? ⟨gb645, 1, none⟩ = some (.int .i64 a1_1) := cA BK645 1; have hcz18_2 : w17.cell? ⟨gb645, 2, none⟩ = some (.int .i64 a1_2) := cA BK645 2; have hcz18_3 : w17.cell? ⟨gb645, 3, none⟩ = some (.int .i64 a1_3) := cA BK645 3; have hfz18_0 := blk_frozen BK645.out 0; have hfz18_1 := blk_frozen BK645.out 1; have hfz18_2 := blk_frozen BK645.out 2; have hfz18_3 := blk_frozen BK645.out 3; have hcz19_0 : w17.cell? ⟨gb646, 0, none⟩ = some (.int .i64 a2_0) := cA BK646 0; have hcz19_1 : w17.cell? ⟨gb646, 1, none⟩ = some (.int .i64 a2_1) := cA BK646 1; have hcz19_2 : w17.cell? ⟨gb646, 2, none⟩ = some (.int .i64 a2_2) := cA BK646 2; have hfz19_0 := blk_frozen BK646.out 0; have hfz19_1 := blk_frozen BK646.out 1; have hfz19_2 := blk_frozen BK646.out 2) | ((with_reducible refine gate_callee (f := 74) rfl ?_); refine goesL_ (some 34) rfl rfl Try.func74 (by kernel_rfl) rfl #[.int .i64 a0, .agg #[.int .i64 a1_0, .int .i64 a1_1, .int .i64 a1_2, .int .i64 a1_3], .agg #[.int .i64 a2_0, .int .i64 a2_1, .int .i64 a2_2], .int .i64 a3, .int .i64 t648] rfl hA ?_; (with_reducible refine (impl_nearBalls.calls k a0 a1_0 a1_1 a1_2 a1_3 a2_0 a2_1 a2_2 a3 t648 t650 t653 _ A9.out).mono ?_); rintro e w20 ⟨v651, rfl, ho0, hb⟩; refine ⟨_, rfl, ?_⟩; have HO652 := Aside0.mk (Kd.R_lower (Kd.R_newB ho0 (bkA BK646)) (below_size blA)); replace BK645 := kB BK645 hb; replace BK646 := kB BK646 hb; replace HB := lB hb; (try clear hb); (try clear hb2); (try clear hk); (try clear hi); (try clear ho0)))
   go_ret2
   exact ⟨_, by first | rfl | (simp [errW_none, errW_some] <;> rfl) | (simp [*, errW_none, errW_some] <;> rfl), by (with_reducible repeat (first | apply Kd.R_alloc | apply Kd.R_drewN | apply Kd.R_drew)); exact Kd.R_mono HO652.out (fun _ hk => trivial), blA⟩
  ·
   rw [if_neg c8] at H
   have c8b0 : (t649 == 2) = false := beq_eq_false_iff_ne.mpr c8
   have c8b1 : (t649 != 2) = true := bne_iff_ne.mpr c8
   simp only [Option.some.injEq, Prod.mk.injEq] at H
   obtain ⟨rfl, rfl⟩ := H
   go_enter Try.func26, Try.ntmps26
   go_wp2_with (first | ((with_reducible refine gate_dst (N := 5) rfl ?_); refine box_event ?hg (N := 5) ?hd (cs := #[.int .i64 a1_0, .int .i64 a1_1, .int .i64 a1_2, .int .i64 a1_3]) (t := 26) ?hr ?_; (case hd => rfl); (case hg => rfl); (case hr => first | (go_simp; done) | (go_simp; rfl)); intro gb645 hg w21 hbox hb; have BK645 := Aside0.mk (hbox); have GW645 := sA hg; have GE645 := sA hg; replace HB := lB hb; clear hb hbox hg) | ((with_reducible refine gate_dst (N := 6) rfl ?_); refine box_event ?hg (N := 6) ?hd (cs := #[.int .i64 a2_0, .int .i64 a2_1, .int .i64 a2_2]) (t := 39) ?hr ?_; (case hd => rfl); (case hg => rfl); (case hr => first | (go_simp; done) | (go_simp; rfl)); intro gb646 hg w22 hbox hb; have BK646 := Aside0.mk (hbox); have GW646 := sA hg; have GE646 := sA hg; have NB645_646 := nA hg BK645; have NB646_645 := nB hg BK645; replace BK645 := kB BK645 hb; replace HB := lB hb; clear hb hbox hg; have hnb23 := NB645_646.out; have hnc23 := NB646_645.out; have hcz24_0 : w22.cell? ⟨gb645, 0, none⟩ = some (.int .i64 a1_0) := cA BK645 0; have hcz24_1 : w22.cell? ⟨gb645, 1, none⟩ = some (.int .i64 a1_1) := cA BK645 1; have hcz24_2 : w22.cell? ⟨gb645, 2, none⟩ = some (.int .i64 a1_2) := cA BK645 2; have hcz24_3 : w22.cell? ⟨gb645, 3, none⟩ = some (.int .i64 a1_3) := cA BK645 3; have hfz24_0 := blk_frozen BK645.out 0; have hfz24_1 := blk_frozen BK645.out 1; have hfz24_2 := blk_frozen BK645.out 2; have hfz24_3 := blk_frozen BK645.out 3; have hcz25_0 : w22.cell? ⟨gb646, 0, none⟩ = some (.int .i64 a2_0) := cA BK646 0; have hcz25_1 : w22.cell? ⟨gb646, 1, none⟩ = some (.int .i64 a2_1) := cA BK646 1; have hcz25_2 : w22.cell? ⟨gb646, 2, none⟩ = some (.int .i64 a2_2) := cA BK646 2; have hfz25_0 := blk_frozen BK646.out 0; have hfz25_1 := blk_frozen BK646.out 1; have hfz25_2 := blk_frozen BK646.out 2) | ((with_reducible refine gate_callee (f := 73) rfl ?_); refine goesL_ (some 17) rfl rfl Try.func73 (by kernel_rfl) rfl #[.int .i64 a0, .agg #[.int .i64 a1_0, .int .i64 a1_1, .int .i64 a1_2, .int .i64 a1_3], .agg #[.int .i64 a2_0, .int .i64 a2_1, .int .i64 a2_2], .int .i64 a3] rfl hA ?_; (with_reducible refine (impl_nearCode.calls k a0 a1_0 a1_1 a1_2 a1_3 a2_0 a2_1 a2_2 a3 t647 _ A5.out).mono ?_); rintro e w26 ⟨rfl, hb⟩; refine ⟨_, rfl, ?_⟩; replace BK645 := kB BK645 hb; replace BK646 := kB BK646 hb; replace HB := lB hb; (try clear hb); (try clear hb2); (try clear hk); (try clear hi); have hcz27_0 : w26.cell? ⟨gb645, 0, none⟩ = some (.int .i64 a1_0) := cA BK645 0; have hcz27_1 : w26.cell? ⟨gb645, 1, none⟩ = some (.int .i64 a1_1) := cA BK645 1; have hcz27_2 : w26.cell? ⟨gb645, 2, none⟩ = some (.int .i64 a1_2) := cA BK645 2; have hcz27_3 : w26.cell? ⟨gb645, 3, none⟩ = some (.int .i64 a1_3) := cA BK645 3; have hfz27_0 := blk_frozen BK645.out 0; have hfz27_1 := blk_frozen BK645.out 1; have hfz27_2 := blk_frozen BK645.out 2; have hfz27_3 := blk_frozen BK645.out 3) | ((with_reducible refine gate_callee (f := 77) rfl ?_); refine goesL_ (some 24) rfl rfl Try.func77 (by kernel_rfl) rfl #[.int .i64 a0, .agg #[.int .i64 a1_0, .int .i64 a1_1, .int .i64 a1_2, .int .i64 a1_3]] rfl hA ?_; (with_reducible refine (impl_lengthOf.calls k a0 a1_0 a1_1 a1_2 a1_3 t648 t649 _ A7.out).mono ?_); rintro e w28 ⟨rfl, hb⟩; refine ⟨_, rfl, ?_⟩; replace BK645 := kB BK645 hb; replace BK646 := kB BK646 hb; replace HB := lB hb; (try clear hb); (try clear hb2); (try clear hk); (try clear hi)))
   go_ret2
   exact ⟨_, by first | rfl | (simp [errW_none, errW_some] <;> rfl) | (simp [*, errW_none, errW_some] <;> rfl), by first | exact Kd.R_nil _ _ _ _ _ | exact Kd.N_nil _ _ _ _ _ | exact Kd.V_nil _ _ _ _ _ | exact Kd.Q_nil _ _ _ _ _ | exact Kd.S_nil _ _ _ _ _, blA⟩
 ·
  rw [if_neg c6] at H
  have c6b0 : (t647 == 0) = false := beq_eq_false_iff_ne.mpr c6
  have c6b1 : (t647 != 0) = true := bne_iff_ne.mpr c6
  simp only [Option.some.injEq, Prod.mk.injEq] at H
  obtain ⟨rfl, rfl⟩ := H
  go_enter Try.func26, Try.ntmps26
  go_wp2_with (first | ((with_reducible refine gate_dst (N := 5) rfl ?_); refine box_event ?hg (N := 5) ?hd (cs := #[.int .i64 a1_0, .int .i64 a1_1, .int .i64 a1_2, .int .i64 a1_3]) (t := 26) ?hr ?_; (case hd => rfl); (case hg => rfl); (case hr => first | (go_simp; done) | (go_simp; rfl)); intro gb645 hg w29 hbox hb; have BK645 := Aside0.mk (hbox); have GW645 := sA hg; have GE645 := sA hg; replace HB := lB hb; clear hb hbox hg) | ((with_reducible refine gate_dst (N := 6) rfl ?_); refine box_event ?hg (N := 6) ?hd (cs := #[.int .i64 a2_0, .int .i64 a2_1, .int .i64 a2_2]) (t := 39) ?hr ?_; (case hd => rfl); (case hg => rfl); (case hr => first | (go_simp; done) | (go_simp; rfl)); intro gb646 hg w30 hbox hb; have BK646 := Aside0.mk (hbox); have GW646 := sA hg; have GE646 := sA hg; have NB645_646 := nA hg BK645; have NB646_645 := nB hg BK645; replace BK645 := kB BK645 hb; replace HB := lB hb; clear hb hbox hg; have hnb31 := NB645_646.out; have hnc31 := NB646_645.out; have hcz32_0 : w30.cell? ⟨gb645, 0, none⟩ = some (.int .i64 a1_0) := cA BK645 0; have hcz32_1 : w30.cell? ⟨gb645, 1, none⟩ = some (.int .i64 a1_1) := cA BK645 1; have hcz32_2 : w30.cell? ⟨gb645, 2, none⟩ = some (.int .i64 a1_2) := cA BK645 2; have hcz32_3 : w30.cell? ⟨gb645, 3, none⟩ = some (.int .i64 a1_3) := cA BK645 3; have hfz32_0 := blk_frozen BK645.out 0; have hfz32_1 := blk_frozen BK645.out 1; have hfz32_2 := blk_frozen BK645.out 2; have hfz32_3 := blk_frozen BK645.out 3; have hcz33_0 : w30.cell? ⟨gb646, 0, none⟩ = some (.int .i64 a2_0) := cA BK646 0; have hcz33_1 : w30.cell? ⟨gb646, 1, none⟩ = some (.int .i64 a2_1) := cA BK646 1; have hcz33_2 : w30.cell? ⟨gb646, 2, none⟩ = some (.int .i64 a2_2) := cA BK646 2; have hfz33_0 := blk_frozen BK646.out 0; have hfz33_1 := blk_frozen BK646.out 1; have hfz33_2 := blk_frozen BK646.out 2) | ((with_reducible refine gate_callee (f := 73) rfl ?_); refine goesL_ (some 17) rfl rfl Try.func73 (by kernel_rfl) rfl #[.int .i64 a0, .agg #[.int .i64 a1_0, .int .i64 a1_1, .int .i64 a1_2, .int .i64 a1_3], .agg #[.int .i64 a2_0, .int .i64 a2_1, .int .i64 a2_2], .int .i64 a3] rfl hA ?_; (with_reducible refine (impl_nearCode.calls k a0 a1_0 a1_1 a1_2 a1_3 a2_0 a2_1 a2_2 a3 t647 _ A5.out).mono ?_); rintro e w34 ⟨rfl, hb⟩; refine ⟨_, rfl, ?_⟩; replace BK645 := kB BK645 hb; replace BK646 := kB BK646 hb; replace HB := lB hb; (try clear hb); (try clear hb2); (try clear hk); (try clear hi)))
  go_ret2
  exact ⟨_, by first | rfl | (simp [errW_none, errW_some] <;> rfl) | (simp [*, errW_none, errW_some] <;> rfl), by first | exact Kd.R_nil _ _ _ _ _ | exact Kd.N_nil _ _ _ _ _ | exact Kd.V_nil _ _ _ _ _ | exact Kd.Q_nil _ _ _ _ _ | exact Kd.S_nil _ _ _ _ _, blA⟩
end Go.Proofs.Ytccpccnnbacgjaa.PAll
