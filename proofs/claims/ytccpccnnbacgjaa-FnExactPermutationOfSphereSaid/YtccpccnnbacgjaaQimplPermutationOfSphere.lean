-- turned for this claim out of the kit's print: the same functions, packed anew
import Derived.Test.YtccpccnnbacgjaaQx
import Derived.Test.YtccpccnnbacgjaaQimplBall69
import Derived.Test.YtccpccnnbacgjaaQimplkeeps
import Derived.Test.YtccpccnnbacgjaaQimplmoveBall
import Derived.Test.YtccpccnnbacgjaaQimplspheres
import Derived.Test.YtccpccnnbacgjaaQspecl06Sphere
namespace Go.Proofs.Ytccpccnnbacgjaa.PAll
open Go.RowKit Go.Proofs.YtccpccnnbacgjaaW.PrintWords Go.Proofs.YtccpccnnbacgjaaW.PrintLast Go.Proofs.YtccpccnnbacgjaaW.PrintMore
attribute [local go_sem] Go.Proofs.Ytccpccnnbacgjaa.Aux.setCell_drewN Go.Proofs.Ytccpccnnbacgjaa.Aux.isSome_setCell max2_int min2_int max_two min_two max_three min_three max_four min_four   -- for this text's walks alone
set_option linter.unusedVariables false
set_option linter.unusedSimpArgs false
/-! ### impl_PermutationOfSphere: function 15 -/
def impl_PermutationOfSphere.l0 : Nat → Int → Int → List (List (S39)) → List Int → List (S39) → Int → Int → Int → Int → Int → Int → Option (List Int × Int)
 | 0, _, _, _, _, _, _, _, _, _, _, _ => none
 | k + 1, x0, x2, x9, x11, x39, x40, x41, x439000, x439001, x439002, x439003 => if x41 < x40 then (if 0 ≤ x41 then (if x41 < (x39.length : Int) then ((impl_moveBall.f k x0 x439000 x439001 x439002 x439003 ((rd_T39 x39 x41).f0) ((rd_T39 x39 x41).f1) ((rd_T39 x39 x41).f2)).bind fun bt451 => (if 0 ≤ x2 then (if x2 < (x9.length : Int) then ((impl_Ball_69.f k (rd_L2 x9 x2) bt451.1 bt451.2.1 bt451.2.2.1).bind fun t457 => (if x11.length < 17592186044416 then (impl_PermutationOfSphere.l0 k x0 x2 x9 (x11 ++ [t457]) x39 x40 (wrap64 (x41 + 1)) x439000 x439001 x439002 x439003) else (none))) else (none)) else (none))) else (none)) else (none)) else (some (x11, 0))
def impl_PermutationOfSphere.f (k : Nat) (a0 : Int) (a1_0 : Int) (a1_1 : Int) (a1_2 : Int) (a1_3 : Int) (a2 : Int) : Option (List Int × Int) := (impl_sphereCode.f k a0 a1_0 a1_1 a1_2 a1_3 a2).bind fun t439 => (if t439 = 0 then ((impl_keeps.f k a0 a1_0 a1_1 a1_2 a1_3 0 0 0).bind fun t440 => (if t440 = true then ((impl_spheres.f k a0 0 0 0 a2).bind fun bt441 => (if 0 ≤ a2 then (if a2 < (bt441.1.length : Int) then (impl_PermutationOfSphere.l0 k a0 a2 bt441.1 (([] : List Int)) (rd_L2 bt441.1 a2) ((rd_L2 bt441.1 a2).length : Int) 0 a1_0 a1_1 a1_2 a1_3) else (none)) else (none))) else (some (([] : List Int), 5)))) else (some (([] : List Int), t439)))
theorem impl_PermutationOfSphere.mono_l : ∀ k, (∀ y0 y1 y2 y3 y4 y5 y6 y7 y8 y9 y10, LeO (impl_PermutationOfSphere.l0 k y0 y1 y2 y3 y4 y5 y6 y7 y8 y9 y10) (impl_PermutationOfSphere.l0 (k + 1) y0 y1 y2 y3 y4 y5 y6 y7 y8 y9 y10))
 | 0 => fun _ _ _ _ _ _ _ _ _ _ _ r h => by simp [impl_PermutationOfSphere.l0] at h
 | k + 1 => by
  have ih0 := impl_PermutationOfSphere.mono_l k
  ·
   intro y0 y1 y2 y3 y4 y5 y6 y7 y8 y9 y10
   unfold impl_PermutationOfSphere.l0
   repeat' first
   | (with_reducible exact ih0 _ _ _ _ _ _ _ _ _ _ _)
   | (with_reducible exact impl_Ball_69.mono _ _ _ _ _)
   | (with_reducible exact impl_keeps.mono _ _ _ _ _ _ _ _ _)
   | (with_reducible exact impl_moveBall.mono _ _ _ _ _ _ _ _ _)
   | (with_reducible exact impl_sphereCode.mono _ _ _ _ _ _ _)
   | (with_reducible exact impl_spheres.mono _ _ _ _ _ _)
   | (with_reducible exact LeO.refl _)
   | (with_reducible exact LeO.none _)
   | (with_reducible refine LeO.ite ?_ ?_)
   | (with_reducible refine LeO.bind ?_ (fun _ => ?_))
   | exact ih0 _ _ _ _ _ _ _ _ _ _ _
   | exact impl_Ball_69.mono _ _ _ _ _
   | exact impl_keeps.mono _ _ _ _ _ _ _ _ _
   | exact impl_moveBall.mono _ _ _ _ _ _ _ _ _
   | exact impl_sphereCode.mono _ _ _ _ _ _ _
   | exact impl_spheres.mono _ _ _ _ _ _
   | exact LeO.none _
   | refine LeO.ite ?_ ?_
   | refine LeO.bind ?_ (fun _ => ?_)
theorem impl_PermutationOfSphere.mono : ∀ a0 a1 a2 a3 a4 a5 k, LeO (impl_PermutationOfSphere.f k a0 a1 a2 a3 a4 a5) (impl_PermutationOfSphere.f (k + 1) a0 a1 a2 a3 a4 a5) := by
 intro a0 a1 a2 a3 a4 a5 k
 have ih0 := impl_PermutationOfSphere.mono_l k
 unfold impl_PermutationOfSphere.f
 repeat' first
   | (with_reducible exact ih0 _ _ _ _ _ _ _ _ _ _ _)
   | (with_reducible exact impl_Ball_69.mono _ _ _ _ _)
   | (with_reducible exact impl_keeps.mono _ _ _ _ _ _ _ _ _)
   | (with_reducible exact impl_moveBall.mono _ _ _ _ _ _ _ _ _)
   | (with_reducible exact impl_sphereCode.mono _ _ _ _ _ _ _)
   | (with_reducible exact impl_spheres.mono _ _ _ _ _ _)
   | (with_reducible exact LeO.refl _)
   | (with_reducible exact LeO.none _)
   | (with_reducible refine LeO.ite ?_ ?_)
   | (with_reducible refine LeO.bind ?_ (fun _ => ?_))
   | exact ih0 _ _ _ _ _ _ _ _ _ _ _
   | exact impl_Ball_69.mono _ _ _ _ _
   | exact impl_keeps.mono _ _ _ _ _ _ _ _ _
   | exact impl_moveBall.mono _ _ _ _ _ _ _ _ _
   | exact impl_sphereCode.mono _ _ _ _ _ _ _
   | exact impl_spheres.mono _ _ _ _ _ _
   | exact LeO.none _
   | refine LeO.ite ?_ ?_
   | refine LeO.bind ?_ (fun _ => ?_)
def impl_PermutationOfSphere.T12 : Bool × List (List Nat × List Nat) := (true, [([], []), ([], []), ([], []), ([1, 2], [1, 2]), ([3], [3]), ([], []), ([4, 5], [4, 5]), ([6], [6]), ([0, 7, 6], [0, 7]), ([8, 8, 0, 1, 2, 3, 4, 5, 6, 7, 8], [0, 8])])
def impl_PermutationOfSphere.B12 : List Nat := [0, 0, 0, 6, 14, 0, 62, 126, 255, 511]
theorem impl_PermutationOfSphere.tab12 : rtab .any (opsOf Try.f15 12) = impl_PermutationOfSphere.T12 := by kernel_rfl
theorem impl_PermutationOfSphere.bits12 : waitsOk impl_PermutationOfSphere.T12.2 impl_PermutationOfSphere.B12 = true := by kernel_rfl
set_option maxHeartbeats 8000000 in
set_option maxRecDepth 100000 in
theorem impl_PermutationOfSphere.calls (k : Nat) (a0 : Int) (a1_0 : Int) (a1_1 : Int) (a1_2 : Int) (a1_3 : Int) (a2 : Int) (r1 : List Int) (r2 : Int) (w : World) (h : impl_PermutationOfSphere.f k a0 a1_0 a1_1 a1_2 a1_3 a2 = some (r1, r2)) :
  Calls Try.prog 15 #[.int .i64 a0, .agg #[.int .i64 a1_0, .int .i64 a1_1, .int .i64 a1_2, .int .i64 a1_3], .int .i64 a2] w fun e w' => ∃ v0_ : Value, e = .returned (.tuple #[v0_, .int .i64 r2]) ∧ Kd.R (Kd.int .i64) 2 w' w.heap.size (fun _ => True) v0_ r1 ∧ Below w.heap.size w w' := by
 have hu26 := Try.underlying26
 have hu39 := Try.underlying39
 have HB := Aside0.mk (Below.refl w.heap.size w)
 have H := h
 unfold impl_PermutationOfSphere.f at H
 clear h
 replace H := bS H
 obtain ⟨t439, A4, H⟩ := H
 try dsimp only at H
 by_cases c5 : t439 = 0
 ·
  rw [if_pos c5] at H
  have c5b0 : (t439 == 0) = true := beq_iff_eq.mpr c5
  have c5b1 : (t439 != 0) = false := bne_eq_false_iff_eq.mpr c5
  clear c5
  replace H := bS H
  obtain ⟨t440, A6, H⟩ := H
  try dsimp only at H
  by_cases c7 : t440 = true
  ·
   subst c7
   rw [if_pos rfl] at H
   try dsimp only at H
   replace H := bS H
   obtain ⟨⟨t441, t444⟩, A8, H⟩ := H
   try dsimp only at H
   obtain ⟨y445, hy445⟩ : ∃ y_ : List Int, y_ = (([] : List Int)) := ⟨_, rfl⟩
   replace H : (if 0 ≤ a2 then (if a2 < (t441.length : Int) then (impl_PermutationOfSphere.l0 k a0 a2 t441 y445 (rd_L2 t441 a2) ((rd_L2 t441 a2).length : Int) 0 a1_0 a1_1 a1_2 a1_3) else (none)) else (none)) = some (r1, r2) := by first | (rw [hy445]; with_reducible exact H) | (have H2_ := (Option.bind_some _ _).symm.trans H; rw [hy445]; with_reducible exact H2_) | (have H2_ := (Option.bind_some _ _).symm.trans H; with_reducible exact H2_) | with_reducible exact H | (rw [hy445]; exact H) | exact H
   have Ny445 := Aside0.mk hy445
   clear hy445
   by_cases c9 : 0 ≤ a2
   ·
    rw [if_pos c9] at H
    have c9b0 := decide_eq_true c9
    clear c9
    by_cases c10 : a2 < (t441.length : Int)
    ·
     rw [if_pos c10] at H
     have c10b0 := decide_eq_true c10
     clear c10
     have H' := Aside0.mk H
     clear H
     go_enter Try.func15, Try.ntmps15
     go_wp2_with (first | ((with_reducible refine gate_dst (N := 4) rfl ?_); refine box_event ?hg (N := 4) ?hd (cs := #[.int .i64 a1_0, .int .i64 a1_1, .int .i64 a1_2, .int .i64 a1_3]) (t := 26) ?hr ?_; (case hd => rfl); (case hg => rfl); (case hr => first | (go_simp; done) | (go_simp; rfl)); intro gb438 hg w11 hbox hb; have n0_ := lB hb; have n1_ := Aside0.mk (hbox); have n2_ := sA hg; have n3_ := sA hg; clear HB; have HB := n0_; have BK438 := n1_; have GW438 := n2_; have GE438 := n3_; clear n0_ n1_ n2_ n3_; clear hb hbox hg; have hcz12_0 : w11.cell? ⟨gb438, 0, none⟩ = some (.int .i64 a1_0) := cA BK438 0; have hcz12_1 : w11.cell? ⟨gb438, 1, none⟩ = some (.int .i64 a1_1) := cA BK438 1; have hcz12_2 : w11.cell? ⟨gb438, 2, none⟩ = some (.int .i64 a1_2) := cA BK438 2; have hcz12_3 : w11.cell? ⟨gb438, 3, none⟩ = some (.int .i64 a1_3) := cA BK438 3; have hfz12_0 := blk_frozen BK438.out 0; have hfz12_1 := blk_frozen BK438.out 1; have hfz12_2 := blk_frozen BK438.out 2; have hfz12_3 := blk_frozen BK438.out 3) | ((with_reducible refine gate_callee (f := 64) rfl ?_); refine goesL_ (some 19) rfl rfl Try.func64 (by kernel_rfl) rfl #[.int .i64 a0, .agg #[.int .i64 a1_0, .int .i64 a1_1, .int .i64 a1_2, .int .i64 a1_3], .int .i64 a2] rfl hA ?_; (with_reducible refine (impl_sphereCode.calls k a0 a1_0 a1_1 a1_2 a1_3 a2 t439 _ A4.out).mono ?_); rintro e w13 ⟨rfl, hb⟩; refine ⟨_, rfl, ?_⟩; have n0_ := kB BK438 hb; have n1_ := lB hb; clear BK438; clear HB; have BK438 := n0_; have HB := n1_; clear n0_ n1_; (try clear hb); (try clear hb2); (try clear hk); (try clear hi); have hcz14_0 : w13.cell? ⟨gb438, 0, none⟩ = some (.int .i64 a1_0) := cA BK438 0; have hcz14_1 : w13.cell? ⟨gb438, 1, none⟩ = some (.int .i64 a1_1) := cA BK438 1; have hcz14_2 : w13.cell? ⟨gb438, 2, none⟩ = some (.int .i64 a1_2) := cA BK438 2; have hcz14_3 : w13.cell? ⟨gb438, 3, none⟩ = some (.int .i64 a1_3) := cA BK438 3; have hfz14_0 := blk_frozen BK438.out 0; have hfz14_1 := blk_frozen BK438.out 1; have hfz14_2 := blk_frozen BK438.out 2; have hfz14_3 := blk_frozen BK438.out 3) | ((with_reducible refine gate_callee (f := 66) rfl ?_); refine goesL_ (some 26) rfl rfl Try.func66 (by kernel_rfl) rfl #[.int .i64 a0, .agg #[.int .i64 a1_0, .int .i64 a1_1, .int .i64 a1_2, .int .i64 a1_3], .agg #[.int .i64 0, .int .i64 0, .int .i64 0]] rfl hA ?_; (with_reducible refine (impl_keeps.calls k a0 a1_0 a1_1 a1_2 a1_3 0 0 0 true _ A6.out).mono ?_); rintro e w15 ⟨rfl, hb⟩; refine ⟨_, rfl, ?_⟩; have n0_ := kB BK438 hb; have n1_ := lB hb; clear BK438; clear HB; have BK438 := n0_; have HB := n1_; clear n0_ n1_; (try clear hb); (try clear hb2); (try clear hk); (try clear hi)) | ((with_reducible refine gate_callee (f := 65) rfl ?_); refine goesL_ (some 32) rfl rfl Try.func65 (by kernel_rfl) rfl #[.int .i64 a0, .agg #[.int .i64 0, .int .i64 0, .int .i64 0], .int .i64 a2] rfl hA ?_; (with_reducible refine (impl_spheres.calls k a0 0 0 0 a2 t441 t444 _ A8.out).mono ?_); rintro e w16 ⟨v442, rfl, ho0, hb⟩; refine ⟨_, rfl, ?_⟩; have n0_ := Aside0.mk (Kd.N_lower (Kd.N_mono (ok' := fun k_ => k_ ≠ gb438) ho0 (fun k_ hk_ => (Kd.freshB (bkA BK438) k_ hk_))) (below_size blA)); have n1_ := kB BK438 hb; have n2_ := lB hb; clear BK438; clear HB; have HO443 := n0_; have BK438 := n1_; have HB := n2_; clear n0_ n1_ n2_; (try clear hb); (try clear hb2); (try clear hk); (try clear hi); (try clear ho0)) | ((with_reducible refine gate_dst (N := 35) rfl ?_); refine Kd.R_lit (Kd.int .i64) _ 2 ?hg (N := 35) ?hd (xs := ([] : List Int)) (inner := []) (ok := fun _ => True) (okp := fun _ => True) ?hr ?hp (fun _ hk => hk) trivial (Below.refl _ _) (Nat.le_refl _) (by simp) ?_; (case hd => rfl); (case hg => rfl); (case hr => first | (go_simp; done) | (go_simp; rfl)); (case hp => exact (Reps.none _ _)); intro v446 w17 ho18 hb hg_ hnew_; clear hg_ hnew_; (first | rw [← Ny445.out] at ho18 | (simp only [Int.reduceToNat] at ho18; rw [← Ny445.out] at ho18)); have n0_ := Aside0.mk (Kd.N_elder' (rN HO443) (Kd.R_base ho18) hb); have n1_ := Aside0.mk (Kd.R_lower ho18 (below_size blA)); have n2_ := kB BK438 hb; have n3_ := lB hb; clear HO443; clear BK438; clear HB; have HO443 := n0_; have HO447 := n1_; have BK438 := n2_; have HB := n3_; clear n0_ n1_ n2_ n3_; clear hb ho18; obtain ⟨Ao19, co19, eo19⟩ := Kd.N_slice HO443.out; subst eo19; have p448 : 0 ≤ (a2 : Int) := dA; have q448 : a2 < (t441.length : Int) := dA; obtain ⟨ad448, A448_0, c448_0, e448, hx448_0, hl448_0, hi448_0⟩ := at_L2 (Kd.N_reads' HO443.out).2.2 a2 p448 q448; cases e448; obtain ⟨ce448, hce448, hMe448, hcc448⟩ := Kd.N_get HO443.out [] a2 p448 (by first | exact q448 | exact dA | (have e_ := (Kd.N_reads' HO443.out).1; omega)); obtain ⟨ua448_0, uc448_0, rfl, ul448_0, ge448_0⟩ := Kd.FK_slice_open hMe448; have hv448_0 := hcc448 0 _ rfl; rw [Nat.add_zero, show ((Kd.slice 39 k39)).sz = 1 from rfl, Nat.mul_one] at hv448_0; replace hv448_0 := Option.some.inj (hv448_0.symm.trans hx448_0); injection hv448_0 with hva_ hvn_ hvc_; rw [hva_] at ge448_0; rw [hvc_] at ul448_0; have HL448_0 := Aside0.mk (show Kd.V k39 39 _ w.heap.size _ _ (rd_L2 t441 a2) from Kd.V_mk ul448_0 ge448_0); clear hva_ hvn_ hvc_ ge448_0 ul448_0; clear hcc448 hce448; have HR448_0 := Aside0.mk hi448_0; have HC448_0 := Aside0.mk hl448_0; clear hi448_0 hl448_0; replace p448 := eq_true p448; replace q448 := eq_true q448))
     go_loopg [11, 41] k (fun kq v11 v41 w' => ∃ (x11_1 : List Int) (x41_1 : Int), v41 = .int .i64 x41_1 ∧ Aside0 (impl_PermutationOfSphere.l0 kq a0 a2 t441 x11_1 (rd_L2 t441 a2) ((rd_L2 t441 a2).length : Int) x41_1 a1_0 a1_1 a1_2 a1_3 = some (r1, r2)) ∧ Aside0 (kq ≤ k) ∧ Aside0 (Kd.N (Kd.slice 39 k39) 36 w' w.heap.size (fun k_ => some k_ ≠ (v11 : Value).ownBlock ∧ k_ ≠ gb438) (.slice (some ad448) t441.length co19) t441) ∧ Aside0 (Kd.R (Kd.int .i64) 2 w' w.heap.size (fun _ => True) v11 x11_1) ∧ Aside0 (Kd.V k39 39 w' w.heap.size (fun k_ => some k_ ≠ ((.slice (some ad448) t441.length co19) : Value).ownBlock ∧ some k_ ≠ (v11 : Value).ownBlock ∧ k_ ≠ gb438) (.slice A448_0 (rd_L2 t441 a2).length c448_0) (rd_L2 t441 a2)) ∧ Aside0 (w'.heap[gb438]? = some (.cells #[.int .i64 a1_0, .int .i64 a1_1, .int .i64 a1_2, .int .i64 a1_3] 26 (0, 0))) ∧ Aside0 (Below w.heap.size w w'))
     case atStart => exact ⟨(y445), (0), hB, H', ⟨Nat.le_refl _⟩, ⟨by (with_reducible repeat (first | apply Kd.N_alloc | apply Kd.N_drewN | apply Kd.N_drew)); exact Kd.N_mono HO443.out (fun _ hk => ⟨hk.2, hk.1⟩)⟩, ⟨rA HO447⟩, ⟨by (with_reducible repeat (first | apply Kd.V_alloc | apply Kd.V_drewN | apply Kd.V_drew)); exact Kd.V_mono HL448_0.out (fun _ hk => ⟨hk.2, ⟨hk.1.2, hk.1.1⟩⟩)⟩, ⟨bkA BK438⟩, ⟨blA⟩⟩
     case round =>
      clear H'
      try clear c1
      try clear p2
      try clear c4
      try clear p4
      try clear q4
      try clear hx4
      try clear c5
      try clear c5b0
      try clear c5b1
      try clear c6
      try clear c7
      try clear c9
      try clear c9b0
      try clear c10
      try clear c10b0
      try clear c15
      try clear hcz12_0
      try clear hcz12_1
      try clear hcz12_2
      try clear hcz12_3
      try clear hcz14_0
      try clear hcz14_1
      try clear hcz14_2
      try clear hcz14_3
      try clear hfz12_0
      try clear hfz12_1
      try clear hfz12_2
      try clear hfz12_3
      try clear hfz14_0
      try clear hfz14_1
      try clear hfz14_2
      try clear hfz14_3
      try clear hx448_0
      try clear p448
      try clear q448
      obtain ⟨x11_1, x41_1, rfl, HA, HK1, HO_9, HO_11, HO_39, BK438, HB⟩ := hrel
      cases gk with
      | zero => exact absurd HA.out (by simp [impl_PermutationOfSphere.l0])
      | succ k1 =>
       have H := HA.out
       clear HA
       simp only [impl_PermutationOfSphere.l0] at H
       by_cases c20 : x41_1 < ((rd_L2 t441 a2).length : Int)
       ·
        rw [if_pos c20] at H
        have c20b0 := decide_eq_true c20
        clear c20
        by_cases c21 : 0 ≤ x41_1
        ·
         rw [if_pos c21] at H
         have c21b0 := decide_eq_true c21
         clear c21
         by_cases c22 : x41_1 < ((rd_L2 t441 a2).length : Int)
         ·
          rw [if_pos c22] at H
          have c22b0 := decide_eq_true c22
          clear c22
          replace H := bS H
          obtain ⟨⟨t451, t452, t453, t454⟩, A23, H⟩ := H
          try dsimp only at H
          by_cases c24 : 0 ≤ a2
          ·
           rw [if_pos c24] at H
           have c24b0 := decide_eq_true c24
           clear c24
           by_cases c25 : a2 < (t441.length : Int)
           ·
            rw [if_pos c25] at H
            have c25b0 := decide_eq_true c25
            clear c25
            replace H := bS H
            obtain ⟨t457, A26, H⟩ := H
            try dsimp only at H
            by_cases c27 : x11_1.length < 17592186044416
            ·
             rw [if_pos c27] at H
             have LMc27 := Aside0.mk c27
             clear c27
             obtain ⟨y458, hy458⟩ : ∃ y_ : List Int, y_ = (x11_1 ++ [t457]) := ⟨_, rfl⟩
             replace H : (impl_PermutationOfSphere.l0 k1 a0 a2 t441 y458 (rd_L2 t441 a2) ((rd_L2 t441 a2).length : Int) (wrap64 (x41_1 + 1)) a1_0 a1_1 a1_2 a1_3) = some (r1, r2) := by first | (rw [hy458]; with_reducible exact H) | (have H2_ := (Option.bind_some _ _).symm.trans H; rw [hy458]; with_reducible exact H2_) | (have H2_ := (Option.bind_some _ _).symm.trans H; with_reducible exact H2_) | with_reducible exact H | (rw [hy458]; exact H) | exact H
             have Ny458 := Aside0.mk hy458
             clear hy458
             have H' := Aside0.mk H
             clear H
             have p449 : 0 ≤ (x41_1 : Int) := dA
             have q449 : x41_1 < ((rd_L2 t441 a2).length : Int) := dA
             obtain ⟨ad449, e449, hx449_0, hx449_1, hx449_2⟩ := at_T39 (Kd.V_reads' HO_39.out).2.2 x41_1 p449 q449
             cases e449
             replace p449 := eq_true p449
             replace q449 := eq_true q449
             try go_wp2_with (first | ((with_reducible refine gate_dst (N := 13) rfl ?_); refine box_event ?hg (N := 13) ?hd (cs := #[.int .i64 0, .int .i64 0, .int .i64 0]) (t := 39) ?hr ?_; (case hd => rfl); (case hg => rfl); (case hr => first | (go_simp; done) | (go_simp; rfl)); intro gb450 hg w28 hbox hb; have n0_ := Aside0.mk (Kd.N_below (Kd.N_elderB (rN HO_9) gb450 (Nat.le_of_eq hg.symm)) hb); have n1_ := Aside0.mk (Kd.R_below (rA HO_11) hb); have n2_ := Aside0.mk (Kd.V_below (Kd.V_elderB (rV HO_39) gb450 (Nat.le_of_eq hg.symm)) hb); have n3_ := kB BK438 hb; have n4_ := lB hb; have n5_ := Aside0.mk (hbox); have n6_ := sA hg; have n7_ := sA hg; have n8_ := nA hg BK438; have n9_ := nB hg BK438; clear HO_9; clear HO_11; clear HO_39; clear BK438; clear HB; have HO_9 := n0_; have HO_11 := n1_; have HO_39 := n2_; have BK438 := n3_; have HB := n4_; have BK450 := n5_; have GW450 := n6_; have GE450 := n7_; have NB438_450 := n8_; have NB450_438 := n9_; clear n0_ n1_ n2_ n3_ n4_ n5_ n6_ n7_ n8_ n9_; clear hb hbox hg; have hnb29 := NB450_438.out; have hnc29 := NB438_450.out; have hcz30_0 : w28.cell? ⟨gb450, 0, none⟩ = some (.int .i64 0) := cA BK450 0; have hcz30_1 : w28.cell? ⟨gb450, 1, none⟩ = some (.int .i64 0) := cA BK450 1; have hcz30_2 : w28.cell? ⟨gb450, 2, none⟩ = some (.int .i64 0) := cA BK450 2; have hfz30_0 := blk_frozen BK450.out 0; have hfz30_1 := blk_frozen BK450.out 1; have hfz30_2 := blk_frozen BK450.out 2; have hcz31_0 : w28.cell? ⟨gb438, 0, none⟩ = some (.int .i64 a1_0) := cA BK438 0; have hcz31_1 : w28.cell? ⟨gb438, 1, none⟩ = some (.int .i64 a1_1) := cA BK438 1; have hcz31_2 : w28.cell? ⟨gb438, 2, none⟩ = some (.int .i64 a1_2) := cA BK438 2; have hcz31_3 : w28.cell? ⟨gb438, 3, none⟩ = some (.int .i64 a1_3) := cA BK438 3; have hfz31_0 := blk_frozen BK438.out 0; have hfz31_1 := blk_frozen BK438.out 1; have hfz31_2 := blk_frozen BK438.out 2; have hfz31_3 := blk_frozen BK438.out 3) | ((with_reducible refine gate_callee (f := 68) rfl ?_); refine goesL_ (some 49) rfl rfl Try.func68 (by kernel_rfl) rfl #[.int .i64 a0, .agg #[.int .i64 a1_0, .int .i64 a1_1, .int .i64 a1_2, .int .i64 a1_3], .agg #[.int .i64 ((rd_T39 (rd_L2 t441 a2) x41_1).f0), .int .i64 ((rd_T39 (rd_L2 t441 a2) x41_1).f1), .int .i64 ((rd_T39 (rd_L2 t441 a2) x41_1).f2)]] rfl hA ?_; (with_reducible refine (impl_moveBall.calls k1 a0 a1_0 a1_1 a1_2 a1_3 ((rd_T39 (rd_L2 t441 a2) x41_1).f0) ((rd_T39 (rd_L2 t441 a2) x41_1).f1) ((rd_T39 (rd_L2 t441 a2) x41_1).f2) t451 t452 t453 t454 _ A23.out).mono ?_); rintro e w32 ⟨rfl, hb⟩; refine ⟨_, rfl, ?_⟩; have n0_ := Aside0.mk (Kd.N_below (by (with_reducible repeat (first | apply Kd.N_alloc | apply Kd.N_drewN | apply Kd.N_drew)); exact (Kd.N_mono (Kd.N_far (p := ⟨gb450, 2, none⟩) (Kd.N_far (p := ⟨gb450, 1, none⟩) (Kd.N_far (p := ⟨gb450, 0, none⟩) (Kd.N_mono HO_9.out (fun k_ hk => (⟨hk, hk.2⟩ : _ ∧ k_ ≠ gb450))) (fun _ hk => hk.2) (.int .i64 ((rd_T39 (rd_L2 t441 a2) x41_1).f0))) (fun _ hk => hk.2) (.int .i64 ((rd_T39 (rd_L2 t441 a2) x41_1).f1))) (fun _ hk => hk.2) (.int .i64 ((rd_T39 (rd_L2 t441 a2) x41_1).f2))) (fun _ h_ => h_.1))) hb); have n1_ := Aside0.mk (Kd.R_below (by (with_reducible repeat (first | apply Kd.R_alloc | apply Kd.R_drewN | apply Kd.R_drew)); exact (Kd.R_mono (Kd.R_far (p := ⟨gb450, 2, none⟩) (Kd.R_far (p := ⟨gb450, 1, none⟩) (Kd.R_far (p := ⟨gb450, 0, none⟩) (Kd.R_types HO_11.out BK450.out (by decide)) (fun _ hk => hk.2) (.int .i64 ((rd_T39 (rd_L2 t441 a2) x41_1).f0))) (fun _ hk => hk.2) (.int .i64 ((rd_T39 (rd_L2 t441 a2) x41_1).f1))) (fun _ hk => hk.2) (.int .i64 ((rd_T39 (rd_L2 t441 a2) x41_1).f2))) (fun _ h_ => h_.1))) hb); have n2_ := Aside0.mk (Kd.V_below (by (with_reducible repeat (first | apply Kd.V_alloc | apply Kd.V_drewN | apply Kd.V_drew)); exact (Kd.V_mono (Kd.V_far (p := ⟨gb450, 2, none⟩) (Kd.V_far (p := ⟨gb450, 1, none⟩) (Kd.V_far (p := ⟨gb450, 0, none⟩) (Kd.V_mono HO_39.out (fun k_ hk => (⟨hk, hk.2⟩ : _ ∧ k_ ≠ gb450))) (fun _ hk => hk.2) (.int .i64 ((rd_T39 (rd_L2 t441 a2) x41_1).f0))) (fun _ hk => hk.2) (.int .i64 ((rd_T39 (rd_L2 t441 a2) x41_1).f1))) (fun _ hk => hk.2) (.int .i64 ((rd_T39 (rd_L2 t441 a2) x41_1).f2))) (fun _ h_ => h_.1))) hb); have n3_ := Aside0.mk (blk_below (g := gb438) (o := .cells #[.int .i64 a1_0, .int .i64 a1_1, .int .i64 a1_2, .int .i64 a1_3] 26 (0, 0)) (bkF BK438) hb); have n4_ := Aside0.mk (blk_below (g := gb450) (o := .cells #[.int .i64 ((rd_T39 (rd_L2 t441 a2) x41_1).f0), .int .i64 ((rd_T39 (rd_L2 t441 a2) x41_1).f1), .int .i64 ((rd_T39 (rd_L2 t441 a2) x41_1).f2)] 39 (0, 0)) (by (with_reducible repeat (first | refine blk_drewN ?_ _ | refine blk_drew ?_ | refine blk_alloc ?_ _)); refine blk_put (cs := #[.int .i64 ((rd_T39 (rd_L2 t441 a2) x41_1).f0), .int .i64 ((rd_T39 (rd_L2 t441 a2) x41_1).f1), .int .i64 0]) ?_ 2 _ rfl; (with_reducible repeat (first | refine blk_drewN ?_ _ | refine blk_drew ?_ | refine blk_alloc ?_ _)); refine blk_put (cs := #[.int .i64 ((rd_T39 (rd_L2 t441 a2) x41_1).f0), .int .i64 0, .int .i64 0]) ?_ 1 _ rfl; (with_reducible repeat (first | refine blk_drewN ?_ _ | refine blk_drew ?_ | refine blk_alloc ?_ _)); refine blk_put (cs := #[.int .i64 0, .int .i64 0, .int .i64 0]) ?_ 0 _ rfl; (with_reducible repeat (first | refine blk_drewN ?_ _ | refine blk_drew ?_ | refine blk_alloc ?_ _)); exact BK450.out) hb); have n5_ := lB hb; clear HO_9; clear HO_11; clear HO_39; clear BK438; clear BK450; clear HB; have HO_9 := n0_; have HO_11 := n1_; have HO_39 := n2_; have BK438 := n3_; have BK450 := n4_; have HB := n5_; clear n0_ n1_ n2_ n3_ n4_ n5_; (try clear hb); (try clear hb2); (try clear hk); (try clear hi)) | ((with_reducible refine gate_dst (N := 14) rfl ?_); refine box_event ?hg (N := 14) ?hd (cs := #[.int .i64 0, .int .i64 0, .int .i64 0]) (t := 39) ?hr ?_; (case hd => rfl); (case hg => rfl); (case hr => first | (go_simp; done) | (go_simp; rfl)); intro gb455 hg w33 hbox hb; have n0_ := Aside0.mk (Kd.N_below (Kd.N_elderB (rN HO_9) gb455 (Nat.le_of_eq hg.symm)) hb); have n1_ := Aside0.mk (Kd.R_below (rA HO_11) hb); have n2_ := Aside0.mk (Kd.V_below (Kd.V_elderB (rV HO_39) gb455 (Nat.le_of_eq hg.symm)) hb); have n3_ := kB BK438 hb; have n4_ := kB BK450 hb; have n5_ := lB hb; have n6_ := Aside0.mk (hbox); have n7_ := sA hg; have n8_ := sA hg; have n9_ := nA hg BK438; have n10_ := nB hg BK438; have n11_ := nA hg BK450; have n12_ := nB hg BK450; clear HO_9; clear HO_11; clear HO_39; clear BK438; clear BK450; clear HB; have HO_9 := n0_; have HO_11 := n1_; have HO_39 := n2_; have BK438 := n3_; have BK450 := n4_; have HB := n5_; have BK455 := n6_; have GW455 := n7_; have GE455 := n8_; have NB438_455 := n9_; have NB455_438 := n10_; have NB450_455 := n11_; have NB455_450 := n12_; clear n0_ n1_ n2_ n3_ n4_ n5_ n6_ n7_ n8_ n9_ n10_ n11_ n12_; clear hb hbox hg; have hnb34 := NB455_438.out; have hnc34 := NB438_455.out; have hnb35 := NB455_450.out; have hnc35 := NB450_455.out; have hcz36_0 : w33.cell? ⟨gb455, 0, none⟩ = some (.int .i64 0) := cA BK455 0; have hcz36_1 : w33.cell? ⟨gb455, 1, none⟩ = some (.int .i64 0) := cA BK455 1; have hcz36_2 : w33.cell? ⟨gb455, 2, none⟩ = some (.int .i64 0) := cA BK455 2; have hfz36_0 := blk_frozen BK455.out 0; have hfz36_1 := blk_frozen BK455.out 1; have hfz36_2 := blk_frozen BK455.out 2))
             have n0_ : Aside0 (Kd.N (Kd.slice 39 k39) 36 (((w33.setCell ⟨gb455, 0, none⟩ (.int .i64 t451)).setCell ⟨gb455, 1, none⟩ (.int .i64 t452)).setCell ⟨gb455, 2, none⟩ (.int .i64 t453)) w.heap.size (fun k_ => some k_ ≠ (u11 : Value).ownBlock ∧ k_ ≠ gb438 ∧ k_ ≠ gb450 ∧ k_ ≠ gb455) (.slice (some ad448) t441.length co19) t441) := ⟨by (with_reducible repeat (first | apply Kd.N_alloc | apply Kd.N_drewN | apply Kd.N_drew)); exact Kd.N_mono (Kd.N_far (p := ⟨gb455, 2, none⟩) (Kd.N_far (p := ⟨gb455, 1, none⟩) (Kd.N_far (p := ⟨gb455, 0, none⟩) (Kd.N_mono HO_9.out (fun k_ hk => (⟨hk, hk.2⟩ : _ ∧ k_ ≠ gb455))) (fun _ hk => hk.2) (.int .i64 t451)) (fun _ hk => hk.2) (.int .i64 t452)) (fun _ hk => hk.2) (.int .i64 t453)) (fun _ hk => ⟨hk.1.1.1.1, ⟨hk.1.1.1.2, ⟨hk.1.1.2, hk.1.2⟩⟩⟩)⟩
             have n1_ : Aside0 (Kd.R (Kd.int .i64) 2 (((w33.setCell ⟨gb455, 0, none⟩ (.int .i64 t451)).setCell ⟨gb455, 1, none⟩ (.int .i64 t452)).setCell ⟨gb455, 2, none⟩ (.int .i64 t453)) w.heap.size (fun _ => True) u11 x11_1) := ⟨by (with_reducible repeat (first | apply Kd.R_alloc | apply Kd.R_drewN | apply Kd.R_drew)); exact Kd.R_mono (Kd.R_far (p := ⟨gb455, 2, none⟩) (Kd.R_far (p := ⟨gb455, 1, none⟩) (Kd.R_far (p := ⟨gb455, 0, none⟩) (Kd.R_types HO_11.out BK455.out (by decide)) (fun _ hk => hk.2) (.int .i64 t451)) (fun _ hk => hk.2) (.int .i64 t452)) (fun _ hk => hk.2) (.int .i64 t453)) (fun _ hk => trivial)⟩
             have n2_ : Aside0 (Kd.V k39 39 (((w33.setCell ⟨gb455, 0, none⟩ (.int .i64 t451)).setCell ⟨gb455, 1, none⟩ (.int .i64 t452)).setCell ⟨gb455, 2, none⟩ (.int .i64 t453)) w.heap.size (fun k_ => some k_ ≠ (.slice (some ad448) t441.length co19 : Value).ownBlock ∧ some k_ ≠ (u11 : Value).ownBlock ∧ k_ ≠ gb438 ∧ k_ ≠ gb450 ∧ k_ ≠ gb455) (.slice (some ad449) (rd_L2 t441 a2).length c448_0) (rd_L2 t441 a2)) := ⟨by (with_reducible repeat (first | apply Kd.V_alloc | apply Kd.V_drewN | apply Kd.V_drew)); exact Kd.V_mono (Kd.V_far (p := ⟨gb455, 2, none⟩) (Kd.V_far (p := ⟨gb455, 1, none⟩) (Kd.V_far (p := ⟨gb455, 0, none⟩) (Kd.V_mono HO_39.out (fun k_ hk => (⟨hk, hk.2⟩ : _ ∧ k_ ≠ gb455))) (fun _ hk => hk.2) (.int .i64 t451)) (fun _ hk => hk.2) (.int .i64 t452)) (fun _ hk => hk.2) (.int .i64 t453)) (fun _ hk => ⟨hk.1.1.1.1, ⟨hk.1.1.1.2.1, ⟨hk.1.1.1.2.2, ⟨hk.1.1.2, hk.1.2⟩⟩⟩⟩)⟩
             have n3_ : Aside0 ((((w33.setCell ⟨gb455, 0, none⟩ (.int .i64 t451)).setCell ⟨gb455, 1, none⟩ (.int .i64 t452)).setCell ⟨gb455, 2, none⟩ (.int .i64 t453)).heap[gb438]? = some (.cells #[.int .i64 a1_0, .int .i64 a1_1, .int .i64 a1_2, .int .i64 a1_3] 26 (0, 0))) := ⟨bkF BK438⟩
             have n4_ : Aside0 ((((w33.setCell ⟨gb455, 0, none⟩ (.int .i64 t451)).setCell ⟨gb455, 1, none⟩ (.int .i64 t452)).setCell ⟨gb455, 2, none⟩ (.int .i64 t453)).heap[gb450]? = some (.cells #[.int .i64 ((rd_T39 (rd_L2 t441 a2) x41_1).f0), .int .i64 ((rd_T39 (rd_L2 t441 a2) x41_1).f1), .int .i64 ((rd_T39 (rd_L2 t441 a2) x41_1).f2)] 39 (0, 0))) := ⟨bkF BK450⟩
             have n5_ : Aside0 ((((w33.setCell ⟨gb455, 0, none⟩ (.int .i64 t451)).setCell ⟨gb455, 1, none⟩ (.int .i64 t452)).setCell ⟨gb455, 2, none⟩ (.int .i64 t453)).heap[gb455]? = some (.cells #[.int .i64 t451, .int .i64 t452, .int .i64 t453] 39 (0, 0))) := ⟨by (with_reducible repeat (first | refine blk_drewN ?_ _ | refine blk_drew ?_ | refine blk_alloc ?_ _)); refine blk_put (cs := #[.int .i64 t451, .int .i64 t452, .int .i64 0]) ?_ 2 _ rfl; (with_reducible repeat (first | refine blk_drewN ?_ _ | refine blk_drew ?_ | refine blk_alloc ?_ _)); refine blk_put (cs := #[.int .i64 t451, .int .i64 0, .int .i64 0]) ?_ 1 _ rfl; (with_reducible repeat (first | refine blk_drewN ?_ _ | refine blk_drew ?_ | refine blk_alloc ?_ _)); refine blk_put (cs := #[.int .i64 0, .int .i64 0, .int .i64 0]) ?_ 0 _ rfl; (with_reducible repeat (first | refine blk_drewN ?_ _ | refine blk_drew ?_ | refine blk_alloc ?_ _)); exact BK455.out⟩
             have n6_ : Aside0 (Below w.heap.size w (((w33.setCell ⟨gb455, 0, none⟩ (.int .i64 t451)).setCell ⟨gb455, 1, none⟩ (.int .i64 t452)).setCell ⟨gb455, 2, none⟩ (.int .i64 t453))) := ⟨blA⟩
             (try clear HO_9)
             (try clear HO_11)
             (try clear HO_39)
             (try clear BK438)
             (try clear BK450)
             (try clear BK455)
             (try clear HB)
             generalize (((w33.setCell ⟨gb455, 0, none⟩ (.int .i64 t451)).setCell ⟨gb455, 1, none⟩ (.int .i64 t452)).setCell ⟨gb455, 2, none⟩ (.int .i64 t453)) = w37 at n0_ n1_ n2_ n3_ n4_ n5_ n6_ ⊢
             have HO_9 := n0_
             have HO_11 := n1_
             have HO_39 := n2_
             have BK438 := n3_
             have BK450 := n4_
             have BK455 := n5_
             have HB := n6_
             clear n0_ n1_ n2_ n3_ n4_ n5_ n6_
             have n0_ := Aside0.mk (Kd.N_drew HO_9.out)
             have n1_ := Aside0.mk (Kd.R_drew HO_11.out)
             have n2_ := Aside0.mk (Kd.V_drew HO_39.out)
             have n3_ := Aside0.mk (blk_drew BK438.out)
             have n4_ := Aside0.mk (blk_drew BK450.out)
             have n5_ := Aside0.mk (blk_drew BK455.out)
             have n6_ := Aside0.mk (below_drew1 HB.out)
             clear HO_9
             clear HO_11
             clear HO_39
             clear BK438
             clear BK450
             clear BK455
             clear HB
             have HO_9 := n0_
             have HO_11 := n1_
             have HO_39 := n2_
             have BK438 := n3_
             have BK450 := n4_
             have BK455 := n5_
             have HB := n6_
             clear n0_ n1_ n2_ n3_ n4_ n5_ n6_
             have p456 : 0 ≤ (a2 : Int) := dA
             have q456 : a2 < (t441.length : Int) := dA
             obtain ⟨ad456, A456_0, c456_0, e456, hx456_0, hl456_0, hi456_0⟩ := at_L2 (Kd.N_reads' HO_9.out).2.2 a2 p456 q456
             obtain rfl : ad448 = ad456 := (by injection e456)
             obtain ⟨ce456, hce456, hMe456, hcc456⟩ := Kd.N_get HO_9.out [] a2 p456 (by first | exact q456 | exact dA | (have e_ := (Kd.N_reads' HO_9.out).1; omega))
             obtain ⟨ua456_0, uc456_0, rfl, ul456_0, ge456_0⟩ := Kd.FK_slice_open hMe456
             have hv456_0 := hcc456 0 _ rfl
             rw [Nat.add_zero, show ((Kd.slice 39 k39)).sz = 1 from rfl, Nat.mul_one] at hv456_0
             replace hv456_0 := Option.some.inj (hv456_0.symm.trans hx456_0)
             injection hv456_0 with hva_ hvn_ hvc_
             rw [hva_] at ge456_0
             rw [hvc_] at ul456_0
             have HL456_0 := Aside0.mk (show Kd.V k39 39 _ w.heap.size _ _ (rd_L2 t441 a2) from Kd.V_mk ul456_0 ge456_0)
             clear hva_ hvn_ hvc_ ge456_0 ul456_0
             clear hcc456 hce456
             have HR456_0 := Aside0.mk hi456_0
             have HC456_0 := Aside0.mk hl456_0
             clear hi456_0 hl456_0
             replace p456 := eq_true p456
             replace q456 := eq_true q456
             refine start_ (n := 10) (S := fun w' => w'.cell? ⟨gb455, 0, none⟩ = some (.int .i64 t451) ∧ w'.cell? ⟨gb455, 1, none⟩ = some (.int .i64 t452) ∧ w'.cell? ⟨gb455, 2, none⟩ = some (.int .i64 t453) ∧ w'.cell? (ad448.add (a2).toNat) = some (.slice A456_0 (rd_L2 t441 a2).length c456_0)) (ds := [7, 8]) #[Z, Z, Z, Z, Z, Z, Z, Z, Z, Z] (by kernel_rfl) rfl rfl ⟨cA BK455 0, cA BK455 1, cA BK455 2, hx456_0⟩ (fun hHeld => ?_); refine with_tabW impl_PermutationOfSphere.tab12 impl_PermutationOfSphere.bits12 (fun HT_ HW_ => ?_)
             generalize w37.drew = w38 at HO_9 HO_11 HO_39 BK438 BK450 BK455 HB HL456_0 HR456_0 hx456_0 hHeld ⊢
             refine pure_ (i := 0) (N := some 52) (v := ?_) (a' := ?_) #[Y, Z, Z, Z, Z, Z, Z, Z, Z, Z] rfl rfl (any_of HT_.out (by kernel_rfl)) (fun _ _ _ h => h) (Or.inl ⟨by rfl, ?_⟩) ?_ ?_
             rotate_left
             ·
              intro w'
              go_simp
              with_reducible rfl
             rotate_left
             ·
              simp only [pA]
              rfl
             refine pure_ (i := 1) (N := some 53) (v := ?_) (a' := ?_) #[Y, Y, Z, Z, Z, Z, Z, Z, Z, Z] rfl rfl (any_of HT_.out (by kernel_rfl)) (fun _ _ _ h => h) (Or.inl ⟨by rfl, ?_⟩) ?_ ?_
             rotate_left
             ·
              intro w'
              go_simp
              with_reducible rfl
             rotate_left
             ·
              simp only [pA]
              rfl
             refine pure_ (i := 2) (N := some 54) (v := ?_) (a' := ?_) #[Y, Y, Y, Z, Z, Z, Z, Z, Z, Z] rfl rfl (any_of HT_.out (by kernel_rfl)) (fun _ _ _ h => h) (Or.inl ⟨by rfl, ?_⟩) ?_ ?_
             rotate_left
             ·
              intro w'
              go_simp
              with_reducible rfl
             rotate_left
             ·
              simp only [pA]
              rfl
             refine pure_ (i := 3) (N := some 55) (v := ?_) (a' := ?_) #[Y, Y, Y, Y, Z, Z, Z, Z, Z, Z] rfl rfl (any_of HT_.out (by kernel_rfl)) (fun _ _ _ h => h) (Or.inl ⟨by rfl, ?_⟩) ?_ ?_
             rotate_left
             ·
              intro w'
              go_simp
              with_reducible rfl
             rotate_left
             ·
              simp only [pA]
              rfl
             refine take_ (i := 4) (N := some 56) (v := ?_) (a' := ?_) #[Y, Y, Y, Y, Y, Z, Z, Z, Z, Z] rfl rfl (take_ofW HT_.out HW_.out (by kernel_rfl)) (fun _ _ _ h => h) (Or.inl ⟨by rfl, ?_⟩) hHeld ?_ ?_
             rotate_left
             ·
              rintro w' ⟨s0, s1, s2, s3⟩
              go_simp
              with_reducible rfl
             rotate_left
             ·
              simp only [pA]
              rfl
             refine take_ (i := 5) (N := some 57) (v := ?_) (a' := ?_) #[Y, Y, Y, Y, Y, Y, Z, Z, Z, Z] rfl rfl (take_ofW HT_.out HW_.out (by kernel_rfl)) (fun _ _ _ h => h) (Or.inl ⟨by rfl, ?_⟩) hHeld ?_ ?_
             rotate_left
             ·
              rintro w' ⟨s0, s1, s2, s3⟩
              go_simp
              with_reducible rfl
             rotate_left
             ·
              simp only [pA]
              rfl
             refine one_ (i := 6) (N := some 58) #[Y, Y, Y, Y, Y, Y, Y, Z, Z, Z] rfl rfl (one_of HT_.out (by kernel_rfl)) (by decide) (fun K hK => ?_)
             refine goes_ Try.func69 (by kernel_rfl) rfl #[.slice A456_0 (rd_L2 t441 a2).length c456_0, .agg #[.int .i64 t451, .int .i64 t452, .int .i64 t453]] (by rfl) rfl rfl hA ?_
             with_reducible refine (impl_Ball_69.calls k1 _ _ (rd_L2 t441 a2) t451 t452 t453 t457 _ ?side1 ?side2 A26.out).mono ?_
             (case side1 => repeat (first | exact (Kd.V_reads' HL456_0.out).2.2 | (with_reducible refine Kd.C_alloc ?_ _) | (with_reducible refine Kd.C_drewN ?_ _) | (with_reducible refine Kd.C_drew ?_)))
             (case side2 => exact (Kd.V_reads' HL456_0.out).2.1)
             rintro e w39 ⟨rfl, hb⟩
             have HS3_ := (hb.cell (World.block_lt_of_cell? _ _ (hHeld.2.2.2))).trans (hHeld.2.2.2)
             refine ⟨_, rfl, ?_⟩
             replace HO_9 := Aside0.mk (Kd.N_below (rN HO_9) hb)
             replace HO_11 := Aside0.mk (Kd.R_below (rA HO_11) hb)
             replace HO_39 := Aside0.mk (Kd.V_below (rV HO_39) hb)
             replace HL456_0 := Aside0.mk (Kd.V_below (rV HL456_0) hb)
             replace BK438 := kB BK438 hb
             replace BK450 := kB BK450 hb
             replace BK455 := kB BK455 hb
             replace HB := lB hb
             (try clear hb)
             (try clear hb2)
             (try clear hk)
             (try clear hi)
             refine hK.out _ _ ⟨cA BK455 0, cA BK455 1, cA BK455 2, HS3_⟩ (fun hHeld => ?_)
             clear hK K
             refine norm_ (a' := ?_) ?_ ?_
             rotate_left
             ·
              show Act.put _ (some 58) _ = _
              simp only [pA]
              rfl
             refine last_ (i := 7) (N := some 59) #[Y, Y, Y, Y, Y, Y, Y, Y, Z, Z] rfl rfl (one_of HT_.out (by kernel_rfl)) (by decide) (fun K hK => ?_)
             refine value_ (w1 := ?_) (v := ?_) (by rfl) rfl ?_ ?_
             rotate_left 2
             ·
              go_simp
              constructor
              ·
               rfl
              ·
               rfl
             refine hK.out _ _ ?_
             clear hK K
             refine norm_ (a' := ?_) ?_ ?_
             rotate_left
             ·
              show Act.put _ (some 59) _ = _
              simp only [pA]
              rfl
             refine last_ (i := 8) (N := some 60) #[Y, Y, Y, Y, Y, Y, Y, Y, Y, Z] rfl rfl (one_of HT_.out (by kernel_rfl)) (by decide) (fun K hK => ?_)
             refine Kd.R_append_step (Kd.int .i64) (w0 := w) w.heap.size (by rfl) (.tmp 52) (.tmp 59) 29 2 (.int .i64 0) 8 rfl Try.underlying29 info2 rfl (by decide) (by omega) u11 x11_1 t457 [.int .i64 t457] (fun _ => True) (fun _ => False) rfl rfl ?aP (fun _ hk => hk.elim) ?aF ?aO ?aB ?aS ?aL ?_
             (case aP => exact rfl)
             (case aB => exact blA)
             (case aF => exact (fun _ _ => trivial))
             (case aO => exact (rA HO_11))
             (case aS => exact (below_size blA))
             (case aL => have := LMc27.out; omega)
             intro v459 w40 ho hb hg hat
             rw [← Ny458.out] at ho
             have HO460 := Aside0.mk (ho)
             replace HO_9 := Aside0.mk (Kd.N_afterv (ok := (fun k_ => k_ ≠ gb438 ∧ k_ ≠ gb450 ∧ k_ ≠ gb455)) (by (with_reducible repeat (first | apply Kd.N_alloc | apply Kd.N_drewN | apply Kd.N_drew)); exact Kd.N_mono HO_9.out (fun _ hk => ⟨⟨hk.2.1, ⟨hk.2.2.1, hk.2.2.2⟩⟩, hk.1⟩)) hg hat)
             replace HO_39 := Aside0.mk (Kd.V_afterv (ok := (fun k_ => some k_ ≠ (.slice (some ad448) t441.length co19 : Value).ownBlock ∧ k_ ≠ gb438 ∧ k_ ≠ gb450 ∧ k_ ≠ gb455)) (by (with_reducible repeat (first | apply Kd.V_alloc | apply Kd.V_drewN | apply Kd.V_drew)); exact Kd.V_mono HO_39.out (fun _ hk => ⟨⟨hk.1, ⟨hk.2.2.1, ⟨hk.2.2.2.1, hk.2.2.2.2⟩⟩⟩, hk.2.1⟩)) hg hat)
             replace BK438 := Aside0.mk (blk_grown (bkA BK438) hg (Kd.R_ne HO_11.out BK438.out (by decide)))
             replace BK450 := Aside0.mk (blk_grown (bkA BK450) hg (Kd.R_ne HO_11.out BK450.out (by decide)))
             replace BK455 := Aside0.mk (blk_grown (bkA BK455) hg (Kd.R_ne HO_11.out BK455.out (by decide)))
             replace HL456_0 := Aside0.mk (Kd.V_afterv (ok := (fun k_ => some k_ ≠ (.slice (some ad448) t441.length co19 : Value).ownBlock ∧ k_ ≠ gb438 ∧ k_ ≠ gb450 ∧ k_ ≠ gb455)) (by (with_reducible repeat (first | apply Kd.V_alloc | apply Kd.V_drewN | apply Kd.V_drew)); exact Kd.V_mono HL456_0.out (fun _ hk => ⟨⟨hk.2, ⟨hk.1.2.1, ⟨hk.1.2.2.1, hk.1.2.2.2⟩⟩⟩, hk.1.1⟩)) hg hat)
             replace HB := Aside0.mk (hb)
             clear HO_11
             clear ho hb hg hat
             refine hK.out _ _ ?_
             clear hK K
             refine norm_ (a' := ?_) ?_ ?_
             rotate_left
             ·
              show Act.put _ (some 60) _ = _
              simp only [pA]
              rfl
             refine pure_ (i := 9) (N := some 11) (v := ?_) (a' := ?_) #[Y, Y, Y, Y, Y, Y, Y, Y, Y, Y] rfl rfl (any_of HT_.out (by kernel_rfl)) (fun _ _ _ h => h) (Or.inl ⟨by rfl, ?_⟩) ?_ ?_
             rotate_left
             ·
              intro w'
              go_simp
              with_reducible rfl
             rotate_left
             ·
              simp only [pA]
              rfl
             refine done_ (done_of HT_.out (by kernel_rfl)) ?_
             try go_wp2
             go_roundg k1
             case measure => have := HK1.out; omega
             case rel => exact ⟨(y458), (wrap64 (x41_1 + 1)), hB, H', ⟨by have := HK1.out; omega⟩, ⟨by (with_reducible repeat (first | apply Kd.N_alloc | apply Kd.N_drewN | apply Kd.N_drew)); exact Kd.N_mono HO_9.out (fun _ hk => ⟨hk.2, hk.1.1⟩)⟩, ⟨rA HO460⟩, ⟨by (with_reducible repeat (first | apply Kd.V_alloc | apply Kd.V_drewN | apply Kd.V_drew)); exact Kd.V_mono HO_39.out (fun _ hk => ⟨hk.1.1, ⟨hk.2, hk.1.2.1⟩⟩)⟩, ⟨bkA BK438⟩, ⟨blA⟩⟩
            ·
             rw [if_neg c27] at H
             exact absurd H (by simp)
           ·
            rw [if_neg c25] at H
            exact absurd H (by simp)
          ·
           rw [if_neg c24] at H
           exact absurd H (by simp)
         ·
          rw [if_neg c22] at H
          exact absurd H (by simp)
        ·
         rw [if_neg c21] at H
         exact absurd H (by simp)
       ·
        rw [if_neg c20] at H
        have c20b0 := decide_eq_false c20
        clear c20
        simp only [Option.some.injEq, Prod.mk.injEq] at H
        obtain ⟨rfl, rfl⟩ := H
        go_wp2
        go_ret2
        exact ⟨_, by first | rfl | (simp [errW_none, errW_some] <;> rfl) | (simp [*, errW_none, errW_some] <;> rfl), rA HO_11, blA⟩
    ·
     rw [if_neg c10] at H
     exact absurd H (by simp)
   ·
    rw [if_neg c9] at H
    exact absurd H (by simp)
  ·
   replace c7 := Bool.eq_false_iff.mpr c7
   subst c7
   rw [if_neg (show ¬ (false = true) by decide)] at H
   try dsimp only at H
   simp only [Option.some.injEq, Prod.mk.injEq] at H
   obtain ⟨rfl, rfl⟩ := H
   go_enter Try.func15, Try.ntmps15
   go_wp2_with (first | ((with_reducible refine gate_dst (N := 4) rfl ?_); refine box_event ?hg (N := 4) ?hd (cs := #[.int .i64 a1_0, .int .i64 a1_1, .int .i64 a1_2, .int .i64 a1_3]) (t := 26) ?hr ?_; (case hd => rfl); (case hg => rfl); (case hr => first | (go_simp; done) | (go_simp; rfl)); intro gb438 hg w41 hbox hb; have n0_ := lB hb; have n1_ := Aside0.mk (hbox); have n2_ := sA hg; have n3_ := sA hg; clear HB; have HB := n0_; have BK438 := n1_; have GW438 := n2_; have GE438 := n3_; clear n0_ n1_ n2_ n3_; clear hb hbox hg; have hcz42_0 : w41.cell? ⟨gb438, 0, none⟩ = some (.int .i64 a1_0) := cA BK438 0; have hcz42_1 : w41.cell? ⟨gb438, 1, none⟩ = some (.int .i64 a1_1) := cA BK438 1; have hcz42_2 : w41.cell? ⟨gb438, 2, none⟩ = some (.int .i64 a1_2) := cA BK438 2; have hcz42_3 : w41.cell? ⟨gb438, 3, none⟩ = some (.int .i64 a1_3) := cA BK438 3; have hfz42_0 := blk_frozen BK438.out 0; have hfz42_1 := blk_frozen BK438.out 1; have hfz42_2 := blk_frozen BK438.out 2; have hfz42_3 := blk_frozen BK438.out 3) | ((with_reducible refine gate_callee (f := 64) rfl ?_); refine goesL_ (some 19) rfl rfl Try.func64 (by kernel_rfl) rfl #[.int .i64 a0, .agg #[.int .i64 a1_0, .int .i64 a1_1, .int .i64 a1_2, .int .i64 a1_3], .int .i64 a2] rfl hA ?_; (with_reducible refine (impl_sphereCode.calls k a0 a1_0 a1_1 a1_2 a1_3 a2 t439 _ A4.out).mono ?_); rintro e w43 ⟨rfl, hb⟩; refine ⟨_, rfl, ?_⟩; have n0_ := kB BK438 hb; have n1_ := lB hb; clear BK438; clear HB; have BK438 := n0_; have HB := n1_; clear n0_ n1_; (try clear hb); (try clear hb2); (try clear hk); (try clear hi); have hcz44_0 : w43.cell? ⟨gb438, 0, none⟩ = some (.int .i64 a1_0) := cA BK438 0; have hcz44_1 : w43.cell? ⟨gb438, 1, none⟩ = some (.int .i64 a1_1) := cA BK438 1; have hcz44_2 : w43.cell? ⟨gb438, 2, none⟩ = some (.int .i64 a1_2) := cA BK438 2; have hcz44_3 : w43.cell? ⟨gb438, 3, none⟩ = some (.int .i64 a1_3) := cA BK438 3; have hfz44_0 := blk_frozen BK438.out 0; have hfz44_1 := blk_frozen BK438.out 1; have hfz44_2 := blk_frozen BK438.out 2; have hfz44_3 := blk_frozen BK438.out 3) | ((with_reducible refine gate_callee (f := 66) rfl ?_); refine goesL_ (some 26) rfl rfl Try.func66 (by kernel_rfl) rfl #[.int .i64 a0, .agg #[.int .i64 a1_0, .int .i64 a1_1, .int .i64 a1_2, .int .i64 a1_3], .agg #[.int .i64 0, .int .i64 0, .int .i64 0]] rfl hA ?_; (with_reducible refine (impl_keeps.calls k a0 a1_0 a1_1 a1_2 a1_3 0 0 0 false _ A6.out).mono ?_); rintro e w45 ⟨rfl, hb⟩; refine ⟨_, rfl, ?_⟩; have n0_ := kB BK438 hb; have n1_ := lB hb; clear BK438; clear HB; have BK438 := n0_; have HB := n1_; clear n0_ n1_; (try clear hb); (try clear hb2); (try clear hk); (try clear hi)))
   go_ret2
   exact ⟨_, by first | rfl | (simp [errW_none, errW_some] <;> rfl) | (simp [*, errW_none, errW_some] <;> rfl), by first | exact Kd.R_nil _ _ _ _ _ | exact Kd.N_nil _ _ _ _ _ | exact Kd.V_nil _ _ _ _ _ | exact Kd.Q_nil _ _ _ _ _ | exact Kd.S_nil _ _ _ _ _, blA⟩
 ·
  rw [if_neg c5] at H
  have c5b0 : (t439 == 0) = false := beq_eq_false_iff_ne.mpr c5
  have c5b1 : (t439 != 0) = true := bne_iff_ne.mpr c5
  simp only [Option.some.injEq, Prod.mk.injEq] at H
  obtain ⟨rfl, rfl⟩ := H
  go_enter Try.func15, Try.ntmps15
  go_wp2_with (first | ((with_reducible refine gate_dst (N := 4) rfl ?_); refine box_event ?hg (N := 4) ?hd (cs := #[.int .i64 a1_0, .int .i64 a1_1, .int .i64 a1_2, .int .i64 a1_3]) (t := 26) ?hr ?_; (case hd => rfl); (case hg => rfl); (case hr => first | (go_simp; done) | (go_simp; rfl)); intro gb438 hg w46 hbox hb; have n0_ := lB hb; have n1_ := Aside0.mk (hbox); have n2_ := sA hg; have n3_ := sA hg; clear HB; have HB := n0_; have BK438 := n1_; have GW438 := n2_; have GE438 := n3_; clear n0_ n1_ n2_ n3_; clear hb hbox hg; have hcz47_0 : w46.cell? ⟨gb438, 0, none⟩ = some (.int .i64 a1_0) := cA BK438 0; have hcz47_1 : w46.cell? ⟨gb438, 1, none⟩ = some (.int .i64 a1_1) := cA BK438 1; have hcz47_2 : w46.cell? ⟨gb438, 2, none⟩ = some (.int .i64 a1_2) := cA BK438 2; have hcz47_3 : w46.cell? ⟨gb438, 3, none⟩ = some (.int .i64 a1_3) := cA BK438 3; have hfz47_0 := blk_frozen BK438.out 0; have hfz47_1 := blk_frozen BK438.out 1; have hfz47_2 := blk_frozen BK438.out 2; have hfz47_3 := blk_frozen BK438.out 3) | ((with_reducible refine gate_callee (f := 64) rfl ?_); refine goesL_ (some 19) rfl rfl Try.func64 (by kernel_rfl) rfl #[.int .i64 a0, .agg #[.int .i64 a1_0, .int .i64 a1_1, .int .i64 a1_2, .int .i64 a1_3], .int .i64 a2] rfl hA ?_; (with_reducible refine (impl_sphereCode.calls k a0 a1_0 a1_1 a1_2 a1_3 a2 t439 _ A4.out).mono ?_); rintro e w48 ⟨rfl, hb⟩; refine ⟨_, rfl, ?_⟩; have n0_ := kB BK438 hb; have n1_ := lB hb; clear BK438; clear HB; have BK438 := n0_; have HB := n1_; clear n0_ n1_; (try clear hb); (try clear hb2); (try clear hk); (try clear hi)))
  go_ret2
  exact ⟨_, by first | rfl | (simp [errW_none, errW_some] <;> rfl) | (simp [*, errW_none, errW_some] <;> rfl), by first | exact Kd.R_nil _ _ _ _ _ | exact Kd.N_nil _ _ _ _ _ | exact Kd.V_nil _ _ _ _ _ | exact Kd.Q_nil _ _ _ _ _ | exact Kd.S_nil _ _ _ _ _, blA⟩
end Go.Proofs.Ytccpccnnbacgjaa.PAll
