-- turned for this claim out of the kit's print: the same functions, packed anew
import Derived.Test.YtfkglijnbgijbaaQx
import Derived.Test.YtfkglijnbgijbaaQLeqBallS
import Derived.Test.YtfkglijnbgijbaaQimpldistance
import Derived.Test.YtfkglijnbgijbaaQimplpower
import Derived.Test.YtfkglijnbgijbaaQimplsomeNeighbours
import Derived.Test.YtfkglijnbgijbaaQspecSphereAround
import Derived.Test.YtfkglijnbgijbaaQspecl01Code
namespace Go.Proofs.Ytfkglijnbgijbaa.PAll
open Go.RowKit Go.Proofs.YtfkglijnbgijbaaW.PrintWords Go.Proofs.YtfkglijnbgijbaaW.PrintLast Go.Proofs.YtfkglijnbgijbaaW.PrintMore
attribute [local go_sem] Go.Proofs.Ytfkglijnbgijbaa.Aux.setCell_drewN Go.Proofs.Ytfkglijnbgijbaa.Aux.isSome_setCell Go.Proofs.Ytfkglijnbgijbaa.Aux.max_eight max2_int min2_int max_two min_two max_three min_three max_four min_four   -- for this text's walks alone
set_option linter.unusedVariables false
set_option linter.unusedSimpArgs false
/-! ### impl_spheres: function 142 -/
mutual
def impl_spheres.l0 : Nat → Int → List (List (S34)) → Int → Int → Int → Int → Int → Option ((List (List (S34))) × Bool)
  | 0, _, _, _, _, _, _, _ => none
  | k + 1, x0, x8, x20, x21, x1131000, x1131001, x1131002 => if x21 < x20 then (if 0 ≤ x21 then (if x21 < (x8.length : Int) then (impl_spheres.l1 k x0 x8 x21 (([] : List (S34))) x20 x21 (rd_L4 x8 x21) ((rd_L4 x8 x21).length : Int) 0 x1131000 x1131001 x1131002) else (none)) else (none)) else (some (x8, true))
def impl_spheres.l1 : Nat → Int → List (List (S34)) → Int → List (S34) → Int → Int → List (S34) → Int → Int → Int → Int → Int → Option ((List (List (S34))) × Bool)
  | 0, _, _, _, _, _, _, _, _, _, _, _, _ => none
  | k + 1, x0, x8, x9, x10, x20, x21, x28, x29, x30, x1131000, x1131001, x1131002 => if x30 < x29 then (if 0 ≤ x30 then (if x30 < (x28.length : Int) then ((impl_someNeighbours.f k x0 ((rd_T34 x28 x30).f0) ((rd_T34 x28 x30).f1) ((rd_T34 x28 x30).f2) 0).bind fun bt1146 => (if bt1146.2 = true then (impl_spheres.l2 k x0 x8 x9 x10 x20 x21 x28 x29 x30 bt1146.1 (bt1146.1.length : Int) 0 x1131000 x1131001 x1131002) else (some (([] : List (List (S34))), false)))) else (none)) else (none)) else (if x8.length < 5864062014805 then (impl_spheres.l0 k x0 (x8 ++ [x10]) x20 (wrap64 (x21 + 1)) x1131000 x1131001 x1131002) else (none))
def impl_spheres.l2 : Nat → Int → List (List (S34)) → Int → List (S34) → Int → Int → List (S34) → Int → Int → List (S34) → Int → Int → Int → Int → Int → Option ((List (List (S34))) × Bool)
  | 0, _, _, _, _, _, _, _, _, _, _, _, _, _, _, _ => none
  | k + 1, x0, x8, x9, x10, x20, x21, x28, x29, x30, x42, x43, x44, x1131000, x1131001, x1131002 => if x44 < x43 then (if 0 ≤ x44 then (if x44 < (x42.length : Int) then ((impl_distance.f k x0 x1131000 x1131001 x1131002 ((rd_T34 x42 x44).f0) ((rd_T34 x42 x44).f1) ((rd_T34 x42 x44).f2)).bind fun t1152 => (if t1152 > x9 then (if x10.length < 5864062014805 then (impl_spheres.l2 k x0 x8 x9 (x10 ++ [(⟨(rd_T34 x42 x44).f0, (rd_T34 x42 x44).f1, (rd_T34 x42 x44).f2⟩ : S34)]) x20 x21 x28 x29 x30 x42 x43 (wrap64 (x44 + 1)) x1131000 x1131001 x1131002) else (none)) else (impl_spheres.l2 k x0 x8 x9 x10 x20 x21 x28 x29 x30 x42 x43 (wrap64 (x44 + 1)) x1131000 x1131001 x1131002))) else (none)) else (none)) else (impl_spheres.l1 k x0 x8 x9 x10 x20 x21 x28 x29 (wrap64 (x30 + 1)) x1131000 x1131001 x1131002)
end
def impl_spheres.f (k : Nat) (a0 : Int) (a1_0 : Int) (a1_1 : Int) (a1_2 : Int) (a2 : Int) : Option ((List (List (S34))) × Bool) := impl_spheres.l0 k a0 (([(([(⟨a1_0, a1_1, a1_2⟩ : S34)] : List (S34)))] : List (List (S34)))) a2 0 a1_0 a1_1 a1_2
theorem impl_spheres.mono_l : ∀ k, (∀ y0 y1 y2 y3 y4 y5 y6, LeO (impl_spheres.l0 k y0 y1 y2 y3 y4 y5 y6) (impl_spheres.l0 (k + 1) y0 y1 y2 y3 y4 y5 y6)) ∧ (∀ y0 y1 y2 y3 y4 y5 y6 y7 y8 y9 y10 y11, LeO (impl_spheres.l1 k y0 y1 y2 y3 y4 y5 y6 y7 y8 y9 y10 y11) (impl_spheres.l1 (k + 1) y0 y1 y2 y3 y4 y5 y6 y7 y8 y9 y10 y11)) ∧ (∀ y0 y1 y2 y3 y4 y5 y6 y7 y8 y9 y10 y11 y12 y13 y14, LeO (impl_spheres.l2 k y0 y1 y2 y3 y4 y5 y6 y7 y8 y9 y10 y11 y12 y13 y14) (impl_spheres.l2 (k + 1) y0 y1 y2 y3 y4 y5 y6 y7 y8 y9 y10 y11 y12 y13 y14))
  | 0 => ⟨fun _ _ _ _ _ _ _ r h => by simp [impl_spheres.l0] at h, fun _ _ _ _ _ _ _ _ _ _ _ _ r h => by simp [impl_spheres.l1] at h, fun _ _ _ _ _ _ _ _ _ _ _ _ _ _ _ r h => by simp [impl_spheres.l2] at h⟩
  | k + 1 => by
    obtain ⟨ih0, ih1, ih2⟩ := impl_spheres.mono_l k
    refine ⟨?_, ?_, ?_⟩
    · intro y0 y1 y2 y3 y4 y5 y6
      unfold impl_spheres.l0
      repeat' first
      | (with_reducible exact ih0 _ _ _ _ _ _ _)
      | (with_reducible exact ih1 _ _ _ _ _ _ _ _ _ _ _ _)
      | (with_reducible exact ih2 _ _ _ _ _ _ _ _ _ _ _ _ _ _ _)
      | (with_reducible exact impl_distance.mono _ _ _ _ _ _ _ _)
      | (with_reducible exact impl_someNeighbours.mono _ _ _ _ _ _)
      | (with_reducible exact LeO.refl _)
      | (with_reducible exact LeO.none _)
      | (with_reducible refine LeO.ite ?_ ?_)
      | (with_reducible refine LeO.bind ?_ (fun _ => ?_))
      | exact ih0 _ _ _ _ _ _ _
      | exact ih1 _ _ _ _ _ _ _ _ _ _ _ _
      | exact ih2 _ _ _ _ _ _ _ _ _ _ _ _ _ _ _
      | exact impl_distance.mono _ _ _ _ _ _ _ _
      | exact impl_someNeighbours.mono _ _ _ _ _ _
      | exact LeO.none _
      | refine LeO.ite ?_ ?_
      | refine LeO.bind ?_ (fun _ => ?_)
    · intro y0 y1 y2 y3 y4 y5 y6 y7 y8 y9 y10 y11
      unfold impl_spheres.l1
      repeat' first
      | (with_reducible exact ih0 _ _ _ _ _ _ _)
      | (with_reducible exact ih1 _ _ _ _ _ _ _ _ _ _ _ _)
      | (with_reducible exact ih2 _ _ _ _ _ _ _ _ _ _ _ _ _ _ _)
      | (with_reducible exact impl_distance.mono _ _ _ _ _ _ _ _)
      | (with_reducible exact impl_someNeighbours.mono _ _ _ _ _ _)
      | (with_reducible exact LeO.refl _)
      | (with_reducible exact LeO.none _)
      | (with_reducible refine LeO.ite ?_ ?_)
      | (with_reducible refine LeO.bind ?_ (fun _ => ?_))
      | exact ih0 _ _ _ _ _ _ _
      | exact ih1 _ _ _ _ _ _ _ _ _ _ _ _
      | exact ih2 _ _ _ _ _ _ _ _ _ _ _ _ _ _ _
      | exact impl_distance.mono _ _ _ _ _ _ _ _
      | exact impl_someNeighbours.mono _ _ _ _ _ _
      | exact LeO.none _
      | refine LeO.ite ?_ ?_
      | refine LeO.bind ?_ (fun _ => ?_)
    · intro y0 y1 y2 y3 y4 y5 y6 y7 y8 y9 y10 y11 y12 y13 y14
      unfold impl_spheres.l2
      repeat' first
      | (with_reducible exact ih0 _ _ _ _ _ _ _)
      | (with_reducible exact ih1 _ _ _ _ _ _ _ _ _ _ _ _)
      | (with_reducible exact ih2 _ _ _ _ _ _ _ _ _ _ _ _ _ _ _)
      | (with_reducible exact impl_distance.mono _ _ _ _ _ _ _ _)
      | (with_reducible exact impl_someNeighbours.mono _ _ _ _ _ _)
      | (with_reducible exact LeO.refl _)
      | (with_reducible exact LeO.none _)
      | (with_reducible refine LeO.ite ?_ ?_)
      | (with_reducible refine LeO.bind ?_ (fun _ => ?_))
      | exact ih0 _ _ _ _ _ _ _
      | exact ih1 _ _ _ _ _ _ _ _ _ _ _ _
      | exact ih2 _ _ _ _ _ _ _ _ _ _ _ _ _ _ _
      | exact impl_distance.mono _ _ _ _ _ _ _ _
      | exact impl_someNeighbours.mono _ _ _ _ _ _
      | exact LeO.none _
      | refine LeO.ite ?_ ?_
      | refine LeO.bind ?_ (fun _ => ?_)
theorem impl_spheres.mono : ∀ a0 a1 a2 a3 a4 k, LeO (impl_spheres.f k a0 a1 a2 a3 a4) (impl_spheres.f (k + 1) a0 a1 a2 a3 a4) := by
  intro a0 a1 a2 a3 a4 k
  obtain ⟨ih0, ih1, ih2⟩ := impl_spheres.mono_l k
  unfold impl_spheres.f
  repeat' first
      | (with_reducible exact ih0 _ _ _ _ _ _ _)
      | (with_reducible exact ih1 _ _ _ _ _ _ _ _ _ _ _ _)
      | (with_reducible exact ih2 _ _ _ _ _ _ _ _ _ _ _ _ _ _ _)
      | (with_reducible exact impl_distance.mono _ _ _ _ _ _ _ _)
      | (with_reducible exact impl_someNeighbours.mono _ _ _ _ _ _)
      | (with_reducible exact LeO.refl _)
      | (with_reducible exact LeO.none _)
      | (with_reducible refine LeO.ite ?_ ?_)
      | (with_reducible refine LeO.bind ?_ (fun _ => ?_))
      | exact ih0 _ _ _ _ _ _ _
      | exact ih1 _ _ _ _ _ _ _ _ _ _ _ _
      | exact ih2 _ _ _ _ _ _ _ _ _ _ _ _ _ _ _
      | exact impl_distance.mono _ _ _ _ _ _ _ _
      | exact impl_someNeighbours.mono _ _ _ _ _ _
      | exact LeO.none _
      | refine LeO.ite ?_ ?_
      | refine LeO.bind ?_ (fun _ => ?_)
set_option maxHeartbeats 8000000 in
set_option maxRecDepth 100000 in
theorem impl_spheres.calls (k : Nat) (a0 : Int) (a1_0 : Int) (a1_1 : Int) (a1_2 : Int) (a2 : Int) (r1 : List (List (S34))) (r2 : Bool) (w : World) (h : impl_spheres.f k a0 a1_0 a1_1 a1_2 a2 = some (r1, r2)) :
    Calls Try.prog 142 #[.int .i64 a0, .agg #[.int .i64 a1_0, .int .i64 a1_1, .int .i64 a1_2], .int .i64 a2] w fun e w' => ∃ v0_ : Value, e = .returned (.tuple #[v0_, .bool r2]) ∧ Kd.N (Kd.slice 34 k34) 56 w' w.heap.size (fun k_ => (w.heap.size ≤ k_)) v0_ r1 ∧ Below w.heap.size w w' := by
  have hu34 := Try.underlying34
  have HB := Aside0.mk (Below.refl w.heap.size w)
  have H : (impl_spheres.l0 k a0 (([(([(⟨a1_0, a1_1, a1_2⟩ : S34)] : List (S34)))] : List (List (S34)))) a2 0 a1_0 a1_1 a1_2) = some (r1, r2) := h
  clear h
  obtain ⟨y1131, hy1131⟩ : ∃ y_ : List (S34), y_ = (([(⟨a1_0, a1_1, a1_2⟩ : S34)] : List (S34))) := ⟨_, rfl⟩
  replace H : (impl_spheres.l0 k a0 (([y1131] : List (List (S34)))) a2 0 a1_0 a1_1 a1_2) = some (r1, r2) := by first | (rw [hy1131]; with_reducible exact H) | (have H2_ := (Option.bind_some _ _).symm.trans H; rw [hy1131]; with_reducible exact H2_) | (have H2_ := (Option.bind_some _ _).symm.trans H; with_reducible exact H2_) | with_reducible exact H | (rw [hy1131]; exact H) | exact H
  have Ny1131 := Aside0.mk hy1131
  clear hy1131
  obtain ⟨y1134, hy1134⟩ : ∃ y_ : List (List (S34)), y_ = (([y1131] : List (List (S34)))) := ⟨_, rfl⟩
  replace H : (impl_spheres.l0 k a0 y1134 a2 0 a1_0 a1_1 a1_2) = some (r1, r2) := by first | (rw [hy1134]; with_reducible exact H) | (have H2_ := (Option.bind_some _ _).symm.trans H; rw [hy1134]; with_reducible exact H2_) | (have H2_ := (Option.bind_some _ _).symm.trans H; with_reducible exact H2_) | with_reducible exact H | (rw [hy1134]; exact H) | exact H
  have Ny1134 := Aside0.mk hy1134
  clear hy1134
  have H' := Aside0.mk H
  clear H
  go_enter Try.func142, Try.ntmps142
  go_wp2_with (first | ((with_reducible refine gate_dst (N := 4) rfl ?_); refine box_event ?hg (N := 4) ?hd (cs := #[.int .i64 a1_0, .int .i64 a1_1, .int .i64 a1_2]) (t := 34) ?hr ?_; (case hd => rfl); (case hg => rfl); (case hr => first | (go_simp; done) | (go_simp; rfl)); intro gb1130 hg w4 hbox hb; have n0_ := Aside0.mk (below_step blA hb); have n1_ := Aside0.mk (hbox); have n2_ := Aside0.mk (szA hg blA); have n3_ := Aside0.mk (szA hg blA); clear HB; have HB := n0_; have BK1130 := n1_; have GW1130 := n2_; have GE1130 := n3_; clear n0_ n1_ n2_ n3_; clear hb hbox hg; have hcz5_0 : w4.cell? ⟨gb1130, 0, none⟩ = some (.int .i64 a1_0) := (blk_cell BK1130.out 0).trans rfl; have hcz5_1 : w4.cell? ⟨gb1130, 1, none⟩ = some (.int .i64 a1_1) := (blk_cell BK1130.out 1).trans rfl; have hcz5_2 : w4.cell? ⟨gb1130, 2, none⟩ = some (.int .i64 a1_2) := (blk_cell BK1130.out 2).trans rfl; have hfz5_0 := blk_frozen BK1130.out 0; have hfz5_1 := blk_frozen BK1130.out 1; have hfz5_2 := blk_frozen BK1130.out 2) | ((with_reducible refine gate_dst (N := 18) rfl ?_); refine Kd.R_lit k34 _ 34 ?hg (N := 18) ?hd (xs := ([(⟨a1_0, a1_1, a1_2⟩ : S34)] : List (S34))) (inner := [.int .i64 a1_0, .int .i64 a1_1, .int .i64 a1_2]) (ok := fun _ => True) (okp := fun _ => True) ?hr ?hp (fun _ hk => hk) trivial (Below.refl _ _) (Nat.le_refl _) (by simp) ?_; (case hd => rfl); (case hg => rfl); (case hr => first | (go_simp; done) | (go_simp; rfl)); (case hp => exact (Reps.c3 (show Kd.M k34 _ _ _ (⟨a1_0, a1_1, a1_2⟩ : S34) [.int .i64 a1_0, .int .i64 a1_1, .int .i64 a1_2] from (k34_mkM _ _ _ (⟨a1_0, a1_1, a1_2⟩ : S34) )) (Reps.none _ _))); intro v1132 w6 ho7 hb hg_ hnew_; clear hg_ hnew_; (first | rw [← Ny1131.out] at ho7 | (simp only [Int.reduceToNat] at ho7; rw [← Ny1131.out] at ho7)); have n0_ := Aside0.mk (Kd.R_lower (Kd.R_newB (Kd.R_newM (M := fun k_ => (w.heap.size ≤ k_)) ho7 (below_size blA) (fun k_ h_ => h_)) (bkA BK1130)) (below_size blA)); have n1_ := Aside0.mk (blk_below (bkA BK1130) hb); have n2_ := Aside0.mk (below_step blA hb); clear BK1130; clear HB; have HO1133 := n0_; have BK1130 := n1_; have HB := n2_; clear n0_ n1_ n2_; clear hb ho7; obtain ⟨Ao8, co8, eo8⟩ := Kd.R_slice HO1133.out; subst eo8) | ((with_reducible refine gate_dst (N := 19) rfl ?_); refine Kd.N_lit (Kd.slice 34 k34) _ 56 ?hg (N' := 19) ?hd (xs := ([y1131] : List (List (S34)))) (inner := [.slice Ao8 y1131.length co8]) (ok := (fun k_ => (w.heap.size ≤ k_) ∧ k_ ≠ gb1130)) (okp := (fun k_ => (w.heap.size ≤ k_) ∧ k_ ≠ gb1130)) ?hr ?hp (fun _ hk => hk) ((show ∀ k_, w6.heap.size ≤ k_ → (fun k_ => (w.heap.size ≤ k_) ∧ k_ ≠ gb1130) k_ from fun k_ hk => ⟨(Nat.le_trans (below_size blA) hk), Kd.freshB (bkA BK1130) k_ hk⟩) _ (Nat.le_refl _)) (Below.refl _ _) (Nat.le_refl _) (by simp) ?_; (case hd => rfl); (case hg => rfl); (case hr => first | (go_simp; done) | (go_simp; rfl)); (case hp => exact (Reps.one (show Kd.FK (Kd.slice 34 k34) _ _ y1131 [.slice Ao8 y1131.length co8] from (Kd.FK_slice_mk (Kd.R_reads' (Kd.R_mono (ok' := (fun k_ => (w.heap.size ≤ k_) ∧ k_ ≠ gb1130)) (HO1133.out) (fun k_ hk => ⟨hk.1.1, hk.2⟩))).2.1 (Kd.R_F (Kd.R_mono (ok' := (fun k_ => (w.heap.size ≤ k_) ∧ k_ ≠ gb1130)) (HO1133.out) (fun k_ hk => ⟨hk.1.1, hk.2⟩))))) (Reps.none _ _))); intro v1135 w9 ho10 hb hg_ hnew_; clear hg_ hnew_; (first | rw [← Ny1134.out] at ho10 | (simp only [Int.reduceToNat] at ho10; rw [← Ny1134.out] at ho10)); have n0_ := Aside0.mk (Kd.N_lower ho10 (below_size blA)); have n1_ := Aside0.mk (blk_below (bkA BK1130) hb); have n2_ := Aside0.mk (below_step blA hb); clear BK1130; clear HB; clear HO1133; have HO1136 := n0_; have BK1130 := n1_; have HB := n2_; clear n0_ n1_ n2_; clear hb ho10))
  go_loopg [8, 21] k (fun kq v8 v21 w' => ∃ (x8_1 : List (List (S34))) (x21_1 : Int), v21 = .int .i64 x21_1 ∧ Aside0 (impl_spheres.l0 kq a0 x8_1 a2 x21_1 a1_0 a1_1 a1_2 = some (r1, r2)) ∧ Aside0 (kq ≤ k) ∧ Aside0 (Kd.N (Kd.slice 34 k34) 56 w' w.heap.size (fun k_ => (w.heap.size ≤ k_) ∧ k_ ≠ gb1130) v8 x8_1) ∧ Aside0 (w'.heap[gb1130]? = some (.cells #[.int .i64 a1_0, .int .i64 a1_1, .int .i64 a1_2] 34 (0, 0))) ∧ Aside0 (Below w.heap.size w w'))
  case atStart => exact ⟨(y1134), (0), (by first | rfl | (simp; done) | (simp [*]; done)), H', ⟨Nat.le_refl _⟩, ⟨by (with_reducible repeat (first | apply Kd.N_alloc | apply Kd.N_drewN | apply Kd.N_drew)); exact HO1136.out⟩, ⟨bkA BK1130⟩, ⟨blA⟩⟩
  case round =>
    clear H'
    try clear c1
    try clear p2
    try clear c3
    try clear hcz5_0
    try clear hcz5_1
    try clear hcz5_2
    try clear hfz5_0
    try clear hfz5_1
    try clear hfz5_2
    obtain ⟨x8_1, x21_1, rfl, HA, HK1, HO_8, BK1130, HB⟩ := hrel
    cases gk with
    | zero => exact absurd HA.out (by simp [impl_spheres.l0])
    | succ k1 =>
      have H := HA.out
      clear HA
      simp only [impl_spheres.l0] at H
      by_cases c11 : x21_1 < a2
      · rw [if_pos c11] at H
        have c11b0 : decide (x21_1 < a2) = true := decide_eq_true c11
        clear c11
        obtain ⟨y1137, hy1137⟩ : ∃ y_ : List (S34), y_ = (([] : List (S34))) := ⟨_, rfl⟩
        replace H : (if 0 ≤ x21_1 then (if x21_1 < (x8_1.length : Int) then (impl_spheres.l1 k1 a0 x8_1 x21_1 y1137 a2 x21_1 (rd_L4 x8_1 x21_1) ((rd_L4 x8_1 x21_1).length : Int) 0 a1_0 a1_1 a1_2) else (none)) else (none)) = some (r1, r2) := by first | (rw [hy1137]; with_reducible exact H) | (have H2_ := (Option.bind_some _ _).symm.trans H; rw [hy1137]; with_reducible exact H2_) | (have H2_ := (Option.bind_some _ _).symm.trans H; with_reducible exact H2_) | with_reducible exact H | (rw [hy1137]; exact H) | exact H
        have Ny1137 := Aside0.mk hy1137
        clear hy1137
        by_cases c12 : 0 ≤ x21_1
        · rw [if_pos c12] at H
          have c12b0 : decide (0 ≤ x21_1) = true := decide_eq_true c12
          clear c12
          by_cases c13 : x21_1 < (x8_1.length : Int)
          · rw [if_pos c13] at H
            have c13b0 : decide (x21_1 < (x8_1.length : Int)) = true := decide_eq_true c13
            clear c13
            have H' := Aside0.mk H
            clear H
            go_wp2_with (first | ((with_reducible refine gate_dst (N := 24) rfl ?_); refine Kd.R_lit k34 _ 34 ?hg (N := 24) ?hd (xs := ([] : List (S34))) (inner := []) (ok := fun _ => True) (okp := fun _ => True) ?hr ?hp (fun _ hk => hk) trivial (Below.refl _ _) (Nat.le_refl _) (by simp) ?_; (case hd => rfl); (case hg => rfl); (case hr => first | (go_simp; done) | (go_simp; rfl)); (case hp => exact (Reps.none _ _)); intro v1138 w14 ho15 hb hg_ hnew_; clear hg_ hnew_; (first | rw [← Ny1137.out] at ho15 | (simp only [Int.reduceToNat] at ho15; rw [← Ny1137.out] at ho15)); have n0_ := Aside0.mk (Kd.N_elder' (by (with_reducible repeat (first | apply Kd.N_alloc | apply Kd.N_drewN | apply Kd.N_drew)); exact HO_8.out) (Kd.R_base ho15) hb); have n1_ := Aside0.mk (Kd.R_lower (Kd.R_newB (Kd.R_newM (M := fun k_ => (w.heap.size ≤ k_)) ho15 (below_size blA) (fun k_ h_ => h_)) (bkA BK1130)) (below_size blA)); have n2_ := Aside0.mk (blk_below (bkA BK1130) hb); have n3_ := Aside0.mk (below_step blA hb); clear HO_8; clear BK1130; clear HB; have HO_8 := n0_; have HO1139 := n1_; have BK1130 := n2_; have HB := n3_; clear n0_ n1_ n2_ n3_; clear hb ho15; obtain ⟨Ao16, co16, eo16⟩ := Kd.N_slice HO_8.out; subst eo16; have p1140 : 0 ≤ (x21_1 : Int) := of_decide_eq_true (by first | (with_reducible assumption) | assumption); have q1140 : x21_1 < (x8_1.length : Int) := of_decide_eq_true (by first | (with_reducible assumption) | assumption); obtain ⟨ad1140, A1140_0, c1140_0, e1140, hx1140_0, hl1140_0, hi1140_0⟩ := at_L4 (Kd.N_reads' HO_8.out).2.2 x21_1 p1140 q1140; cases e1140; obtain ⟨ce1140, hce1140, hMe1140, hcc1140⟩ := Kd.N_get HO_8.out [] x21_1 p1140 (by first | exact q1140 | exact of_decide_eq_true (by first | (with_reducible assumption) | assumption) | (have e_ := (Kd.N_reads' HO_8.out).1; omega)); obtain ⟨ua1140_0, uc1140_0, rfl, ul1140_0, ge1140_0⟩ := Kd.FK_slice_open hMe1140; have hv1140_0 := hcc1140 0 _ rfl; rw [Nat.add_zero, show ((Kd.slice 34 k34)).sz = 1 from rfl, Nat.mul_one] at hv1140_0; replace hv1140_0 := Option.some.inj (hv1140_0.symm.trans hx1140_0); injection hv1140_0 with hva_ hvn_ hvc_; rw [hva_] at ge1140_0; rw [hvc_] at ul1140_0; have HL1140_0 := Aside0.mk (show Kd.V k34 34 _ w.heap.size _ _ (rd_L4 x8_1 x21_1) from Kd.V_mk ul1140_0 ge1140_0); clear hva_ hvn_ hvc_ ge1140_0 ul1140_0; clear hcc1140 hce1140; have HR1140_0 := Aside0.mk hi1140_0; have HC1140_0 := Aside0.mk hl1140_0; clear hi1140_0 hl1140_0; replace p1140 := eq_true p1140; replace q1140 := eq_true q1140))
            go_loopg [10, 30] k1 (fun kq v10 v30 w' => ∃ (x10_2 : List (S34)) (x30_2 : Int), v30 = .int .i64 x30_2 ∧ Aside0 (impl_spheres.l1 kq a0 x8_1 x21_1 x10_2 a2 x21_1 (rd_L4 x8_1 x21_1) ((rd_L4 x8_1 x21_1).length : Int) x30_2 a1_0 a1_1 a1_2 = some (r1, r2)) ∧ Aside0 (kq ≤ k1) ∧ Aside0 (Kd.N (Kd.slice 34 k34) 56 w' w.heap.size (fun k_ => (w.heap.size ≤ k_) ∧ some k_ ≠ (v10 : Value).ownBlock ∧ k_ ≠ gb1130) (.slice (some ad1140) x8_1.length co16) x8_1) ∧ Aside0 (Kd.R k34 34 w' w.heap.size (fun k_ => (w.heap.size ≤ k_) ∧ k_ ≠ gb1130) v10 x10_2) ∧ Aside0 (Kd.V k34 34 w' w.heap.size (fun k_ => (w.heap.size ≤ k_) ∧ some k_ ≠ ((.slice (some ad1140) x8_1.length co16) : Value).ownBlock ∧ some k_ ≠ (v10 : Value).ownBlock ∧ k_ ≠ gb1130) (.slice A1140_0 (rd_L4 x8_1 x21_1).length c1140_0) (rd_L4 x8_1 x21_1)) ∧ Aside0 (w'.heap[gb1130]? = some (.cells #[.int .i64 a1_0, .int .i64 a1_1, .int .i64 a1_2] 34 (0, 0))) ∧ Aside0 (Below w.heap.size w w'))
            case atStart => exact ⟨(y1137), (0), (by first | rfl | (simp; done) | (simp [*]; done)), H', ⟨Nat.le_refl _⟩, ⟨by (with_reducible repeat (first | apply Kd.N_alloc | apply Kd.N_drewN | apply Kd.N_drew)); exact Kd.N_mono HO_8.out (fun _ hk => ⟨hk.1.1, ⟨hk.2, hk.1.2⟩⟩)⟩, ⟨by (with_reducible repeat (first | apply Kd.R_alloc | apply Kd.R_drewN | apply Kd.R_drew)); exact Kd.R_mono HO1139.out (fun _ hk => ⟨hk.1.1, hk.2⟩)⟩, ⟨by (with_reducible repeat (first | apply Kd.V_alloc | apply Kd.V_drewN | apply Kd.V_drew)); exact Kd.V_mono HL1140_0.out (fun _ hk => ⟨hk.1.1.1, ⟨hk.2, ⟨hk.1.2, hk.1.1.2⟩⟩⟩)⟩, ⟨bkA BK1130⟩, ⟨blA⟩⟩
            case round =>
              clear H'
              try clear c1
              try clear p1
              try clear q1
              try clear hx1
              try clear p2
              try clear c3
              try clear c11
              try clear c11b0
              try clear p11
              try clear q11
              try clear hx11
              try clear c12
              try clear c12b0
              try clear c13
              try clear c13b0
              try clear c14
              try clear hcz5_0
              try clear hcz5_1
              try clear hcz5_2
              try clear hfz5_0
              try clear hfz5_1
              try clear hfz5_2
              try clear hx1140_0
              try clear p1140
              try clear p2
              try clear q1140
              obtain ⟨x10_2, x30_2, rfl, HA, HK2, HO_8, HO_10, HO_28, BK1130, HB⟩ := hrel
              cases gk with
              | zero => exact absurd HA.out (by simp [impl_spheres.l1])
              | succ k2 =>
                have H := HA.out
                clear HA
                simp only [impl_spheres.l1] at H
                by_cases c17 : x30_2 < ((rd_L4 x8_1 x21_1).length : Int)
                · rw [if_pos c17] at H
                  have c17b0 : decide (x30_2 < ((rd_L4 x8_1 x21_1).length : Int)) = true := decide_eq_true c17
                  clear c17
                  by_cases c18 : 0 ≤ x30_2
                  · rw [if_pos c18] at H
                    have c18b0 : decide (0 ≤ x30_2) = true := decide_eq_true c18
                    clear c18
                    by_cases c19 : x30_2 < ((rd_L4 x8_1 x21_1).length : Int)
                    · rw [if_pos c19] at H
                      have c19b0 : decide (x30_2 < ((rd_L4 x8_1 x21_1).length : Int)) = true := decide_eq_true c19
                      clear c19
                      replace H := Option.bind_eq_some_iff.mp H
                      obtain ⟨⟨t1146, t1149⟩, A200, H⟩ := H
                      replace H : (if t1149 = true then (impl_spheres.l2 k2 a0 x8_1 x21_1 x10_2 a2 x21_1 (rd_L4 x8_1 x21_1) ((rd_L4 x8_1 x21_1).length : Int) x30_2 t1146 (t1146.length : Int) 0 a1_0 a1_1 a1_2) else (some (([] : List (List (S34))), false))) = some (r1, r2) := H
                      have A20 := Aside0.mk A200
                      clear A200
                      by_cases c21 : t1149 = true
                      · subst c21
                        have H1 : (impl_spheres.l2 k2 a0 x8_1 x21_1 x10_2 a2 x21_1 (rd_L4 x8_1 x21_1) ((rd_L4 x8_1 x21_1).length : Int) x30_2 t1146 (t1146.length : Int) 0 a1_0 a1_1 a1_2) = some (r1, r2) := by rw [if_pos rfl] at H; exact H
                        clear H
                        have H := H1
                        clear H1
                        have H' := Aside0.mk H
                        clear H
                        have p1144 : 0 ≤ (x30_2 : Int) := of_decide_eq_true (by first | (with_reducible assumption) | assumption)
                        have q1144 : x30_2 < ((rd_L4 x8_1 x21_1).length : Int) := of_decide_eq_true (by first | (with_reducible assumption) | assumption)
                        obtain ⟨ad1144, e1144, hx1144_0, hx1144_1, hx1144_2⟩ := at_T34 (Kd.V_reads' HO_28.out).2.2 x30_2 p1144 q1144
                        cases e1144
                        replace p1144 := eq_true p1144
                        replace q1144 := eq_true q1144
                        go_wp2_with (first | ((with_reducible refine gate_dst (N := 12) rfl ?_); refine box_event ?hg (N := 12) ?hd (cs := #[.int .i64 0, .int .i64 0, .int .i64 0]) (t := 34) ?hr ?_; (case hd => rfl); (case hg => rfl); (case hr => first | (go_simp; done) | (go_simp; rfl)); intro gb1145 hg w22 hbox hb; have n0_ := Aside0.mk (Kd.N_below (Kd.N_elderB (by (with_reducible repeat (first | apply Kd.N_alloc | apply Kd.N_drewN | apply Kd.N_drew)); exact HO_8.out) gb1145 (Nat.le_of_eq hg.symm)) hb); have n1_ := Aside0.mk (Kd.R_below (Kd.R_elderB (by (with_reducible repeat (first | apply Kd.R_alloc | apply Kd.R_drewN | apply Kd.R_drew)); exact HO_10.out) gb1145 (Nat.le_of_eq hg.symm)) hb); have n2_ := Aside0.mk (Kd.V_below (Kd.V_elderB (by (with_reducible repeat (first | apply Kd.V_alloc | apply Kd.V_drewN | apply Kd.V_drew)); exact HO_28.out) gb1145 (Nat.le_of_eq hg.symm)) hb); have n3_ := Aside0.mk (blk_below (bkA BK1130) hb); have n4_ := Aside0.mk (below_step blA hb); have n5_ := Aside0.mk (hbox); have n6_ := Aside0.mk (szA hg blA); have n7_ := Aside0.mk (szA hg blA); have n8_ := Aside0.mk (neA hg (bkA BK1130)); have n9_ := Aside0.mk (neB hg (bkA BK1130)); clear HO_8; clear HO_10; clear HO_28; clear BK1130; clear HB; have HO_8 := n0_; have HO_10 := n1_; have HO_28 := n2_; have BK1130 := n3_; have HB := n4_; have BK1145 := n5_; have GW1145 := n6_; have GE1145 := n7_; have NB1130_1145 := n8_; have NB1145_1130 := n9_; clear n0_ n1_ n2_ n3_ n4_ n5_ n6_ n7_ n8_ n9_; clear hb hbox hg; have hnb23 := NB1145_1130.out; have hnc23 := NB1130_1145.out; have hcz24_0 : w22.cell? ⟨gb1145, 0, none⟩ = some (.int .i64 0) := (blk_cell BK1145.out 0).trans rfl; have hcz24_1 : w22.cell? ⟨gb1145, 1, none⟩ = some (.int .i64 0) := (blk_cell BK1145.out 1).trans rfl; have hcz24_2 : w22.cell? ⟨gb1145, 2, none⟩ = some (.int .i64 0) := (blk_cell BK1145.out 2).trans rfl; have hfz24_0 := blk_frozen BK1145.out 0; have hfz24_1 := blk_frozen BK1145.out 1; have hfz24_2 := blk_frozen BK1145.out 2) | ((with_reducible refine gate_callee (f := 153) rfl ?_); refine goesL_ (some 37) rfl rfl Try.func153 (by kernel_rfl) rfl #[.int .i64 a0, .agg #[.int .i64 ((rd_T34 (rd_L4 x8_1 x21_1) x30_2).f0), .int .i64 ((rd_T34 (rd_L4 x8_1 x21_1) x30_2).f1), .int .i64 ((rd_T34 (rd_L4 x8_1 x21_1) x30_2).f2)], .int .i64 0] rfl (by (try simp only [List.map_toArray, List.map_cons, List.map_nil]); first | done | rfl | (simp only [List.length_drop, List.length_take]; rfl)) ?_; (with_reducible refine (impl_someNeighbours.calls k2 a0 ((rd_T34 (rd_L4 x8_1 x21_1) x30_2).f0) ((rd_T34 (rd_L4 x8_1 x21_1) x30_2).f1) ((rd_T34 (rd_L4 x8_1 x21_1) x30_2).f2) 0 t1146 true _ A20.out).mono ?_); rintro e w25 ⟨v1147, rfl, ho0, hb⟩; refine ⟨_, rfl, ?_⟩; have n0_ := Aside0.mk (Kd.N_elder' (by (with_reducible repeat (first | apply Kd.N_alloc | apply Kd.N_drewN | apply Kd.N_drew)); exact (Kd.N_mono (Kd.N_far (p := ⟨gb1145, 2, none⟩) (Kd.N_far (p := ⟨gb1145, 1, none⟩) (Kd.N_far (p := ⟨gb1145, 0, none⟩) (Kd.N_mono HO_8.out (fun k_ hk => (⟨hk, hk.2⟩ : _ ∧ k_ ≠ gb1145))) (fun _ hk => hk.2) (.int .i64 ((rd_T34 (rd_L4 x8_1 x21_1) x30_2).f0))) (fun _ hk => hk.2) (.int .i64 ((rd_T34 (rd_L4 x8_1 x21_1) x30_2).f1))) (fun _ hk => hk.2) (.int .i64 ((rd_T34 (rd_L4 x8_1 x21_1) x30_2).f2))) (fun _ h_ => h_.1))) (Kd.R_base ho0) hb); have n1_ := Aside0.mk (Kd.R_elder' (by (with_reducible repeat (first | apply Kd.R_alloc | apply Kd.R_drewN | apply Kd.R_drew)); exact (Kd.R_mono (Kd.R_far (p := ⟨gb1145, 2, none⟩) (Kd.R_far (p := ⟨gb1145, 1, none⟩) (Kd.R_far (p := ⟨gb1145, 0, none⟩) (Kd.R_mono HO_10.out (fun k_ hk => (⟨hk, hk.2⟩ : _ ∧ k_ ≠ gb1145))) (fun _ hk => hk.2) (.int .i64 ((rd_T34 (rd_L4 x8_1 x21_1) x30_2).f0))) (fun _ hk => hk.2) (.int .i64 ((rd_T34 (rd_L4 x8_1 x21_1) x30_2).f1))) (fun _ hk => hk.2) (.int .i64 ((rd_T34 (rd_L4 x8_1 x21_1) x30_2).f2))) (fun _ h_ => h_.1))) (Kd.R_base ho0) hb); have n2_ := Aside0.mk (Kd.V_elder' (by (with_reducible repeat (first | apply Kd.V_alloc | apply Kd.V_drewN | apply Kd.V_drew)); exact (Kd.V_mono (Kd.V_far (p := ⟨gb1145, 2, none⟩) (Kd.V_far (p := ⟨gb1145, 1, none⟩) (Kd.V_far (p := ⟨gb1145, 0, none⟩) (Kd.V_mono HO_28.out (fun k_ hk => (⟨hk, hk.2⟩ : _ ∧ k_ ≠ gb1145))) (fun _ hk => hk.2) (.int .i64 ((rd_T34 (rd_L4 x8_1 x21_1) x30_2).f0))) (fun _ hk => hk.2) (.int .i64 ((rd_T34 (rd_L4 x8_1 x21_1) x30_2).f1))) (fun _ hk => hk.2) (.int .i64 ((rd_T34 (rd_L4 x8_1 x21_1) x30_2).f2))) (fun _ h_ => h_.1))) (Kd.R_base ho0) hb); have n3_ := Aside0.mk (Kd.R_lower (Kd.R_newB (Kd.R_newB (Kd.R_new' (Kd.R_newM (M := fun k_ => (w.heap.size ≤ k_)) ho0 (below_size blA) (fun k_ h_ => h_)) (Kd.R_lt (by (with_reducible repeat (first | apply Kd.R_alloc | apply Kd.R_drewN | apply Kd.R_drew)); exact (Kd.R_mono (Kd.R_far (p := ⟨gb1145, 2, none⟩) (Kd.R_far (p := ⟨gb1145, 1, none⟩) (Kd.R_far (p := ⟨gb1145, 0, none⟩) (Kd.R_mono HO_10.out (fun k_ hk => (⟨hk, hk.2⟩ : _ ∧ k_ ≠ gb1145))) (fun _ hk => hk.2) (.int .i64 ((rd_T34 (rd_L4 x8_1 x21_1) x30_2).f0))) (fun _ hk => hk.2) (.int .i64 ((rd_T34 (rd_L4 x8_1 x21_1) x30_2).f1))) (fun _ hk => hk.2) (.int .i64 ((rd_T34 (rd_L4 x8_1 x21_1) x30_2).f2))) (fun _ h_ => h_.1))))) (g := gb1130) (o := .cells #[.int .i64 a1_0, .int .i64 a1_1, .int .i64 a1_2] 34 (0, 0)) (by (with_reducible repeat (first | refine blk_drewN ?_ _ | refine blk_drew ?_ | refine blk_alloc ?_ _)); refine blk_far ?_ NB1130_1145.out _; (with_reducible repeat (first | refine blk_drewN ?_ _ | refine blk_drew ?_ | refine blk_alloc ?_ _)); refine blk_far ?_ NB1130_1145.out _; (with_reducible repeat (first | refine blk_drewN ?_ _ | refine blk_drew ?_ | refine blk_alloc ?_ _)); refine blk_far ?_ NB1130_1145.out _; (with_reducible repeat (first | refine blk_drewN ?_ _ | refine blk_drew ?_ | refine blk_alloc ?_ _)); exact BK1130.out)) (g := gb1145) (o := .cells #[.int .i64 ((rd_T34 (rd_L4 x8_1 x21_1) x30_2).f0), .int .i64 ((rd_T34 (rd_L4 x8_1 x21_1) x30_2).f1), .int .i64 ((rd_T34 (rd_L4 x8_1 x21_1) x30_2).f2)] 34 (0, 0)) (by (with_reducible repeat (first | refine blk_drewN ?_ _ | refine blk_drew ?_ | refine blk_alloc ?_ _)); refine blk_put (cs := #[.int .i64 ((rd_T34 (rd_L4 x8_1 x21_1) x30_2).f0), .int .i64 ((rd_T34 (rd_L4 x8_1 x21_1) x30_2).f1), .int .i64 0]) ?_ 2 _ rfl; (with_reducible repeat (first | refine blk_drewN ?_ _ | refine blk_drew ?_ | refine blk_alloc ?_ _)); refine blk_put (cs := #[.int .i64 ((rd_T34 (rd_L4 x8_1 x21_1) x30_2).f0), .int .i64 0, .int .i64 0]) ?_ 1 _ rfl; (with_reducible repeat (first | refine blk_drewN ?_ _ | refine blk_drew ?_ | refine blk_alloc ?_ _)); refine blk_put (cs := #[.int .i64 0, .int .i64 0, .int .i64 0]) ?_ 0 _ rfl; (with_reducible repeat (first | refine blk_drewN ?_ _ | refine blk_drew ?_ | refine blk_alloc ?_ _)); exact BK1145.out)) (below_size blA)); have n4_ := Aside0.mk (blk_below (g := gb1130) (o := .cells #[.int .i64 a1_0, .int .i64 a1_1, .int .i64 a1_2] 34 (0, 0)) (by (with_reducible repeat (first | refine blk_drewN ?_ _ | refine blk_drew ?_ | refine blk_alloc ?_ _)); refine blk_far ?_ NB1130_1145.out _; (with_reducible repeat (first | refine blk_drewN ?_ _ | refine blk_drew ?_ | refine blk_alloc ?_ _)); refine blk_far ?_ NB1130_1145.out _; (with_reducible repeat (first | refine blk_drewN ?_ _ | refine blk_drew ?_ | refine blk_alloc ?_ _)); refine blk_far ?_ NB1130_1145.out _; (with_reducible repeat (first | refine blk_drewN ?_ _ | refine blk_drew ?_ | refine blk_alloc ?_ _)); exact BK1130.out) hb); have n5_ := Aside0.mk (blk_below (g := gb1145) (o := .cells #[.int .i64 ((rd_T34 (rd_L4 x8_1 x21_1) x30_2).f0), .int .i64 ((rd_T34 (rd_L4 x8_1 x21_1) x30_2).f1), .int .i64 ((rd_T34 (rd_L4 x8_1 x21_1) x30_2).f2)] 34 (0, 0)) (by (with_reducible repeat (first | refine blk_drewN ?_ _ | refine blk_drew ?_ | refine blk_alloc ?_ _)); refine blk_put (cs := #[.int .i64 ((rd_T34 (rd_L4 x8_1 x21_1) x30_2).f0), .int .i64 ((rd_T34 (rd_L4 x8_1 x21_1) x30_2).f1), .int .i64 0]) ?_ 2 _ rfl; (with_reducible repeat (first | refine blk_drewN ?_ _ | refine blk_drew ?_ | refine blk_alloc ?_ _)); refine blk_put (cs := #[.int .i64 ((rd_T34 (rd_L4 x8_1 x21_1) x30_2).f0), .int .i64 0, .int .i64 0]) ?_ 1 _ rfl; (with_reducible repeat (first | refine blk_drewN ?_ _ | refine blk_drew ?_ | refine blk_alloc ?_ _)); refine blk_put (cs := #[.int .i64 0, .int .i64 0, .int .i64 0]) ?_ 0 _ rfl; (with_reducible repeat (first | refine blk_drewN ?_ _ | refine blk_drew ?_ | refine blk_alloc ?_ _)); exact BK1145.out) hb); have n6_ := Aside0.mk (below_step blA hb); clear HO_8; clear HO_10; clear HO_28; clear BK1130; clear BK1145; clear HB; have HO_8 := n0_; have HO_10 := n1_; have HO_28 := n2_; have HO1148 := n3_; have BK1130 := n4_; have BK1145 := n5_; have HB := n6_; clear n0_ n1_ n2_ n3_ n4_ n5_ n6_; (try clear hb); (try clear hb2); (try clear hk); (try clear hi); (try clear ho0); obtain ⟨Ao26, co26, eo26⟩ := Kd.R_slice HO1148.out; subst eo26))
                        go_loopg [10, 44] k2 (fun kq v10 v44 w' => ∃ (x10_3 : List (S34)) (x44_3 : Int), v44 = .int .i64 x44_3 ∧ Aside0 (impl_spheres.l2 kq a0 x8_1 x21_1 x10_3 a2 x21_1 (rd_L4 x8_1 x21_1) ((rd_L4 x8_1 x21_1).length : Int) x30_2 t1146 (t1146.length : Int) x44_3 a1_0 a1_1 a1_2 = some (r1, r2)) ∧ Aside0 (kq ≤ k2) ∧ Aside0 (Kd.N (Kd.slice 34 k34) 56 w' w.heap.size (fun k_ => (w.heap.size ≤ k_) ∧ some k_ ≠ (v10 : Value).ownBlock ∧ some k_ ≠ ((.slice Ao26 t1146.length co26) : Value).ownBlock ∧ k_ ≠ gb1130 ∧ k_ ≠ gb1145) (.slice (some ad1140) x8_1.length co16) x8_1) ∧ Aside0 (Kd.R k34 34 w' w.heap.size (fun k_ => (w.heap.size ≤ k_) ∧ some k_ ≠ ((.slice Ao26 t1146.length co26) : Value).ownBlock ∧ k_ ≠ gb1130 ∧ k_ ≠ gb1145) v10 x10_3) ∧ Aside0 (Kd.V k34 34 w' w.heap.size (fun k_ => (w.heap.size ≤ k_) ∧ some k_ ≠ ((.slice (some ad1140) x8_1.length co16) : Value).ownBlock ∧ some k_ ≠ (v10 : Value).ownBlock ∧ some k_ ≠ ((.slice Ao26 t1146.length co26) : Value).ownBlock ∧ k_ ≠ gb1130 ∧ k_ ≠ gb1145) (.slice (some ad1144) (rd_L4 x8_1 x21_1).length c1140_0) (rd_L4 x8_1 x21_1)) ∧ Aside0 (Kd.R k34 34 w' w.heap.size (fun k_ => (w.heap.size ≤ k_) ∧ some k_ ≠ (v10 : Value).ownBlock ∧ k_ ≠ gb1130 ∧ k_ ≠ gb1145) (.slice Ao26 t1146.length co26) t1146) ∧ Aside0 (w'.heap[gb1130]? = some (.cells #[.int .i64 a1_0, .int .i64 a1_1, .int .i64 a1_2] 34 (0, 0))) ∧ Aside0 (w'.heap[gb1145]? = some (.cells #[.int .i64 ((rd_T34 (rd_L4 x8_1 x21_1) x30_2).f0), .int .i64 ((rd_T34 (rd_L4 x8_1 x21_1) x30_2).f1), .int .i64 ((rd_T34 (rd_L4 x8_1 x21_1) x30_2).f2)] 34 (0, 0))) ∧ Aside0 (Below w.heap.size w w'))
                        case atStart => exact ⟨(x10_2), (0), (by first | rfl | (simp; done) | (simp [*]; done)), H', ⟨Nat.le_refl _⟩, ⟨by (with_reducible repeat (first | apply Kd.N_alloc | apply Kd.N_drewN | apply Kd.N_drew)); exact Kd.N_mono HO_8.out (fun _ hk => ⟨hk.1.1.1, ⟨hk.1.1.2.1, ⟨hk.2, ⟨hk.1.1.2.2, hk.1.2⟩⟩⟩⟩)⟩, ⟨by (with_reducible repeat (first | apply Kd.R_alloc | apply Kd.R_drewN | apply Kd.R_drew)); exact Kd.R_mono HO_10.out (fun _ hk => ⟨hk.1.1.1, ⟨hk.2, ⟨hk.1.1.2, hk.1.2⟩⟩⟩)⟩, ⟨by (with_reducible repeat (first | apply Kd.V_alloc | apply Kd.V_drewN | apply Kd.V_drew)); exact Kd.V_mono HO_28.out (fun _ hk => ⟨hk.1.1.1, ⟨hk.1.1.2.1, ⟨hk.1.1.2.2.1, ⟨hk.2, ⟨hk.1.1.2.2.2, hk.1.2⟩⟩⟩⟩⟩)⟩, ⟨by (with_reducible repeat (first | apply Kd.R_alloc | apply Kd.R_drewN | apply Kd.R_drew)); exact Kd.R_mono HO1148.out (fun _ hk => ⟨hk.1.1.1.1, ⟨hk.1.1.2, ⟨hk.1.2, hk.2⟩⟩⟩)⟩, ⟨bkA BK1130⟩, ⟨bkA BK1145⟩, ⟨blA⟩⟩
                        case round =>
                          clear H'
                          try clear c1
                          try clear p1
                          try clear q1
                          try clear hx1
                          try clear c2
                          try clear p2
                          try clear c3
                          try clear c11
                          try clear c11b0
                          try clear p11
                          try clear q11
                          try clear hx11
                          try clear c12
                          try clear c12b0
                          try clear c13
                          try clear c13b0
                          try clear c14
                          try clear c15
                          try clear c17
                          try clear c17b0
                          try clear c18
                          try clear c18b0
                          try clear c19
                          try clear c19b0
                          try clear c21
                          try clear c23
                          try clear hcz24_0
                          try clear hcz24_1
                          try clear hcz24_2
                          try clear hcz5_0
                          try clear hcz5_1
                          try clear hcz5_2
                          try clear hfz24_0
                          try clear hfz24_1
                          try clear hfz24_2
                          try clear hfz5_0
                          try clear hfz5_1
                          try clear hfz5_2
                          try clear hx1140_0
                          try clear hx1144_0
                          try clear hx1144_1
                          try clear hx1144_2
                          try clear p1
                          try clear p11
                          try clear p1140
                          try clear p1144
                          try clear p2
                          try clear q1
                          try clear q11
                          try clear q1140
                          try clear q1144
                          obtain ⟨x10_3, x44_3, rfl, HA, HK3, HO_8, HO_10, HO_28, HO_42, BK1130, BK1145, HB⟩ := hrel
                          cases gk with
                          | zero => exact absurd HA.out (by simp [impl_spheres.l2])
                          | succ k3 =>
                            have H := HA.out
                            clear HA
                            simp only [impl_spheres.l2] at H
                            by_cases c27 : x44_3 < (t1146.length : Int)
                            · rw [if_pos c27] at H
                              have c27b0 : decide (x44_3 < (t1146.length : Int)) = true := decide_eq_true c27
                              clear c27
                              by_cases c28 : 0 ≤ x44_3
                              · rw [if_pos c28] at H
                                have c28b0 : decide (0 ≤ x44_3) = true := decide_eq_true c28
                                clear c28
                                by_cases c29 : x44_3 < (t1146.length : Int)
                                · rw [if_pos c29] at H
                                  have c29b0 : decide (x44_3 < (t1146.length : Int)) = true := decide_eq_true c29
                                  clear c29
                                  replace H := Option.bind_eq_some_iff.mp H
                                  obtain ⟨t1152, A300, H⟩ := H
                                  replace H : (if t1152 > x21_1 then (if x10_3.length < 5864062014805 then (impl_spheres.l2 k3 a0 x8_1 x21_1 (x10_3 ++ [(⟨(rd_T34 t1146 x44_3).f0, (rd_T34 t1146 x44_3).f1, (rd_T34 t1146 x44_3).f2⟩ : S34)]) a2 x21_1 (rd_L4 x8_1 x21_1) ((rd_L4 x8_1 x21_1).length : Int) x30_2 t1146 (t1146.length : Int) (wrap64 (x44_3 + 1)) a1_0 a1_1 a1_2) else (none)) else (impl_spheres.l2 k3 a0 x8_1 x21_1 x10_3 a2 x21_1 (rd_L4 x8_1 x21_1) ((rd_L4 x8_1 x21_1).length : Int) x30_2 t1146 (t1146.length : Int) (wrap64 (x44_3 + 1)) a1_0 a1_1 a1_2)) = some (r1, r2) := H
                                  have A30 := Aside0.mk A300
                                  clear A300
                                  by_cases c31 : t1152 > x21_1
                                  · rw [if_pos c31] at H
                                    have c31b0 : decide (x21_1 < t1152) = true := decide_eq_true c31
                                    clear c31
                                    by_cases c32 : x10_3.length < 5864062014805
                                    · rw [if_pos c32] at H
                                      have LMc32 := Aside0.mk c32
                                      clear c32
                                      obtain ⟨y1153, hy1153⟩ : ∃ y_ : List (S34), y_ = (x10_3 ++ [(⟨(rd_T34 t1146 x44_3).f0, (rd_T34 t1146 x44_3).f1, (rd_T34 t1146 x44_3).f2⟩ : S34)]) := ⟨_, rfl⟩
                                      replace H : (impl_spheres.l2 k3 a0 x8_1 x21_1 y1153 a2 x21_1 (rd_L4 x8_1 x21_1) ((rd_L4 x8_1 x21_1).length : Int) x30_2 t1146 (t1146.length : Int) (wrap64 (x44_3 + 1)) a1_0 a1_1 a1_2) = some (r1, r2) := by first | (rw [hy1153]; with_reducible exact H) | (have H2_ := (Option.bind_some _ _).symm.trans H; rw [hy1153]; with_reducible exact H2_) | (have H2_ := (Option.bind_some _ _).symm.trans H; with_reducible exact H2_) | with_reducible exact H | (rw [hy1153]; exact H) | exact H
                                      have Ny1153 := Aside0.mk hy1153
                                      clear hy1153
                                      have H' := Aside0.mk H
                                      clear H
                                      have p1150 : 0 ≤ (x44_3 : Int) := of_decide_eq_true (by first | (with_reducible assumption) | assumption)
                                      have q1150 : x44_3 < (t1146.length : Int) := of_decide_eq_true (by first | (with_reducible assumption) | assumption)
                                      obtain ⟨ad1150, e1150, hx1150_0, hx1150_1, hx1150_2⟩ := at_T34 (Kd.R_reads' HO_42.out).2.2 x44_3 p1150 q1150
                                      cases e1150
                                      replace p1150 := eq_true p1150
                                      replace q1150 := eq_true q1150
                                      go_wp2_with (first | ((with_reducible refine gate_dst (N := 16) rfl ?_); refine box_event ?hg (N := 16) ?hd (cs := #[.int .i64 0, .int .i64 0, .int .i64 0]) (t := 34) ?hr ?_; (case hd => rfl); (case hg => rfl); (case hr => first | (go_simp; done) | (go_simp; rfl)); intro gb1151 hg w33 hbox hb; have n0_ := Aside0.mk (Kd.N_below (Kd.N_elderB (by (with_reducible repeat (first | apply Kd.N_alloc | apply Kd.N_drewN | apply Kd.N_drew)); exact HO_8.out) gb1151 (Nat.le_of_eq hg.symm)) hb); have n1_ := Aside0.mk (Kd.R_below (Kd.R_elderB (by (with_reducible repeat (first | apply Kd.R_alloc | apply Kd.R_drewN | apply Kd.R_drew)); exact HO_10.out) gb1151 (Nat.le_of_eq hg.symm)) hb); have n2_ := Aside0.mk (Kd.V_below (Kd.V_elderB (by (with_reducible repeat (first | apply Kd.V_alloc | apply Kd.V_drewN | apply Kd.V_drew)); exact HO_28.out) gb1151 (Nat.le_of_eq hg.symm)) hb); have n3_ := Aside0.mk (Kd.R_below (Kd.R_elderB (by (with_reducible repeat (first | apply Kd.R_alloc | apply Kd.R_drewN | apply Kd.R_drew)); exact HO_42.out) gb1151 (Nat.le_of_eq hg.symm)) hb); have n4_ := Aside0.mk (blk_below (bkA BK1130) hb); have n5_ := Aside0.mk (blk_below (bkA BK1145) hb); have n6_ := Aside0.mk (below_step blA hb); have n7_ := Aside0.mk (hbox); have n8_ := Aside0.mk (szA hg blA); have n9_ := Aside0.mk (szA hg blA); have n10_ := Aside0.mk (neA hg (bkA BK1130)); have n11_ := Aside0.mk (neB hg (bkA BK1130)); have n12_ := Aside0.mk (neA hg (bkA BK1145)); have n13_ := Aside0.mk (neB hg (bkA BK1145)); clear HO_8; clear HO_10; clear HO_28; clear HO_42; clear BK1130; clear BK1145; clear HB; have HO_8 := n0_; have HO_10 := n1_; have HO_28 := n2_; have HO_42 := n3_; have BK1130 := n4_; have BK1145 := n5_; have HB := n6_; have BK1151 := n7_; have GW1151 := n8_; have GE1151 := n9_; have NB1130_1151 := n10_; have NB1151_1130 := n11_; have NB1145_1151 := n12_; have NB1151_1145 := n13_; clear n0_ n1_ n2_ n3_ n4_ n5_ n6_ n7_ n8_ n9_ n10_ n11_ n12_ n13_; clear hb hbox hg; have hnb34 := NB1151_1130.out; have hnc34 := NB1130_1151.out; have hnb35 := NB1151_1145.out; have hnc35 := NB1145_1151.out; have hcz36_0 : w33.cell? ⟨gb1151, 0, none⟩ = some (.int .i64 0) := (blk_cell BK1151.out 0).trans rfl; have hcz36_1 : w33.cell? ⟨gb1151, 1, none⟩ = some (.int .i64 0) := (blk_cell BK1151.out 1).trans rfl; have hcz36_2 : w33.cell? ⟨gb1151, 2, none⟩ = some (.int .i64 0) := (blk_cell BK1151.out 2).trans rfl; have hfz36_0 := blk_frozen BK1151.out 0; have hfz36_1 := blk_frozen BK1151.out 1; have hfz36_2 := blk_frozen BK1151.out 2; have hnb37 := NB1130_1145.out; have hnc37 := NB1145_1130.out; have hcz38_0 : w33.cell? ⟨gb1130, 0, none⟩ = some (.int .i64 a1_0) := (blk_cell BK1130.out 0).trans rfl; have hcz38_1 : w33.cell? ⟨gb1130, 1, none⟩ = some (.int .i64 a1_1) := (blk_cell BK1130.out 1).trans rfl; have hcz38_2 : w33.cell? ⟨gb1130, 2, none⟩ = some (.int .i64 a1_2) := (blk_cell BK1130.out 2).trans rfl; have hfz38_0 := blk_frozen BK1130.out 0; have hfz38_1 := blk_frozen BK1130.out 1; have hfz38_2 := blk_frozen BK1130.out 2) | ((with_reducible refine gate_callee (f := 70) rfl ?_); refine goesL_ (some 51) rfl rfl Try.func70 (by kernel_rfl) rfl #[.int .i64 a0, .agg #[.int .i64 a1_0, .int .i64 a1_1, .int .i64 a1_2], .agg #[.int .i64 ((rd_T34 t1146 x44_3).f0), .int .i64 ((rd_T34 t1146 x44_3).f1), .int .i64 ((rd_T34 t1146 x44_3).f2)]] rfl (by (try simp only [List.map_toArray, List.map_cons, List.map_nil]); first | done | rfl | (simp only [List.length_drop, List.length_take]; rfl)) ?_; (with_reducible refine (impl_distance.calls k3 a0 a1_0 a1_1 a1_2 ((rd_T34 t1146 x44_3).f0) ((rd_T34 t1146 x44_3).f1) ((rd_T34 t1146 x44_3).f2) t1152 _ A30.out).mono ?_); rintro e w39 ⟨rfl, hb⟩; refine ⟨_, rfl, ?_⟩; have n0_ := Aside0.mk (Kd.N_below (by (with_reducible repeat (first | apply Kd.N_alloc | apply Kd.N_drewN | apply Kd.N_drew)); exact (Kd.N_mono (Kd.N_far (p := ⟨gb1151, 2, none⟩) (Kd.N_far (p := ⟨gb1151, 1, none⟩) (Kd.N_far (p := ⟨gb1151, 0, none⟩) (Kd.N_mono HO_8.out (fun k_ hk => (⟨hk, hk.2⟩ : _ ∧ k_ ≠ gb1151))) (fun _ hk => hk.2) (.int .i64 ((rd_T34 t1146 x44_3).f0))) (fun _ hk => hk.2) (.int .i64 ((rd_T34 t1146 x44_3).f1))) (fun _ hk => hk.2) (.int .i64 ((rd_T34 t1146 x44_3).f2))) (fun _ h_ => h_.1))) hb); have n1_ := Aside0.mk (Kd.R_below (by (with_reducible repeat (first | apply Kd.R_alloc | apply Kd.R_drewN | apply Kd.R_drew)); exact (Kd.R_mono (Kd.R_far (p := ⟨gb1151, 2, none⟩) (Kd.R_far (p := ⟨gb1151, 1, none⟩) (Kd.R_far (p := ⟨gb1151, 0, none⟩) (Kd.R_mono HO_10.out (fun k_ hk => (⟨hk, hk.2⟩ : _ ∧ k_ ≠ gb1151))) (fun _ hk => hk.2) (.int .i64 ((rd_T34 t1146 x44_3).f0))) (fun _ hk => hk.2) (.int .i64 ((rd_T34 t1146 x44_3).f1))) (fun _ hk => hk.2) (.int .i64 ((rd_T34 t1146 x44_3).f2))) (fun _ h_ => h_.1))) hb); have n2_ := Aside0.mk (Kd.V_below (by (with_reducible repeat (first | apply Kd.V_alloc | apply Kd.V_drewN | apply Kd.V_drew)); exact (Kd.V_mono (Kd.V_far (p := ⟨gb1151, 2, none⟩) (Kd.V_far (p := ⟨gb1151, 1, none⟩) (Kd.V_far (p := ⟨gb1151, 0, none⟩) (Kd.V_mono HO_28.out (fun k_ hk => (⟨hk, hk.2⟩ : _ ∧ k_ ≠ gb1151))) (fun _ hk => hk.2) (.int .i64 ((rd_T34 t1146 x44_3).f0))) (fun _ hk => hk.2) (.int .i64 ((rd_T34 t1146 x44_3).f1))) (fun _ hk => hk.2) (.int .i64 ((rd_T34 t1146 x44_3).f2))) (fun _ h_ => h_.1))) hb); have n3_ := Aside0.mk (Kd.R_below (by (with_reducible repeat (first | apply Kd.R_alloc | apply Kd.R_drewN | apply Kd.R_drew)); exact (Kd.R_mono (Kd.R_far (p := ⟨gb1151, 2, none⟩) (Kd.R_far (p := ⟨gb1151, 1, none⟩) (Kd.R_far (p := ⟨gb1151, 0, none⟩) (Kd.R_mono HO_42.out (fun k_ hk => (⟨hk, hk.2⟩ : _ ∧ k_ ≠ gb1151))) (fun _ hk => hk.2) (.int .i64 ((rd_T34 t1146 x44_3).f0))) (fun _ hk => hk.2) (.int .i64 ((rd_T34 t1146 x44_3).f1))) (fun _ hk => hk.2) (.int .i64 ((rd_T34 t1146 x44_3).f2))) (fun _ h_ => h_.1))) hb); have n4_ := Aside0.mk (blk_below (g := gb1130) (o := .cells #[.int .i64 a1_0, .int .i64 a1_1, .int .i64 a1_2] 34 (0, 0)) (by (with_reducible repeat (first | refine blk_drewN ?_ _ | refine blk_drew ?_ | refine blk_alloc ?_ _)); refine blk_far ?_ NB1130_1151.out _; (with_reducible repeat (first | refine blk_drewN ?_ _ | refine blk_drew ?_ | refine blk_alloc ?_ _)); refine blk_far ?_ NB1130_1151.out _; (with_reducible repeat (first | refine blk_drewN ?_ _ | refine blk_drew ?_ | refine blk_alloc ?_ _)); refine blk_far ?_ NB1130_1151.out _; (with_reducible repeat (first | refine blk_drewN ?_ _ | refine blk_drew ?_ | refine blk_alloc ?_ _)); exact BK1130.out) hb); have n5_ := Aside0.mk (blk_below (g := gb1145) (o := .cells #[.int .i64 ((rd_T34 (rd_L4 x8_1 x21_1) x30_2).f0), .int .i64 ((rd_T34 (rd_L4 x8_1 x21_1) x30_2).f1), .int .i64 ((rd_T34 (rd_L4 x8_1 x21_1) x30_2).f2)] 34 (0, 0)) (by (with_reducible repeat (first | refine blk_drewN ?_ _ | refine blk_drew ?_ | refine blk_alloc ?_ _)); refine blk_far ?_ NB1145_1151.out _; (with_reducible repeat (first | refine blk_drewN ?_ _ | refine blk_drew ?_ | refine blk_alloc ?_ _)); refine blk_far ?_ NB1145_1151.out _; (with_reducible repeat (first | refine blk_drewN ?_ _ | refine blk_drew ?_ | refine blk_alloc ?_ _)); refine blk_far ?_ NB1145_1151.out _; (with_reducible repeat (first | refine blk_drewN ?_ _ | refine blk_drew ?_ | refine blk_alloc ?_ _)); exact BK1145.out) hb); have n6_ := Aside0.mk (blk_below (g := gb1151) (o := .cells #[.int .i64 ((rd_T34 t1146 x44_3).f0), .int .i64 ((rd_T34 t1146 x44_3).f1), .int .i64 ((rd_T34 t1146 x44_3).f2)] 34 (0, 0)) (by (with_reducible repeat (first | refine blk_drewN ?_ _ | refine blk_drew ?_ | refine blk_alloc ?_ _)); refine blk_put (cs := #[.int .i64 ((rd_T34 t1146 x44_3).f0), .int .i64 ((rd_T34 t1146 x44_3).f1), .int .i64 0]) ?_ 2 _ rfl; (with_reducible repeat (first | refine blk_drewN ?_ _ | refine blk_drew ?_ | refine blk_alloc ?_ _)); refine blk_put (cs := #[.int .i64 ((rd_T34 t1146 x44_3).f0), .int .i64 0, .int .i64 0]) ?_ 1 _ rfl; (with_reducible repeat (first | refine blk_drewN ?_ _ | refine blk_drew ?_ | refine blk_alloc ?_ _)); refine blk_put (cs := #[.int .i64 0, .int .i64 0, .int .i64 0]) ?_ 0 _ rfl; (with_reducible repeat (first | refine blk_drewN ?_ _ | refine blk_drew ?_ | refine blk_alloc ?_ _)); exact BK1151.out) hb); have n7_ := Aside0.mk (below_step blA hb); clear HO_8; clear HO_10; clear HO_28; clear HO_42; clear BK1130; clear BK1145; clear BK1151; clear HB; have HO_8 := n0_; have HO_10 := n1_; have HO_28 := n2_; have HO_42 := n3_; have BK1130 := n4_; have BK1145 := n5_; have BK1151 := n6_; have HB := n7_; clear n0_ n1_ n2_ n3_ n4_ n5_ n6_ n7_; (try clear hb); (try clear hb2); (try clear hk); (try clear hi); have hcz40_0 : w39.cell? ⟨gb1151, 0, none⟩ = some (.int .i64 ((rd_T34 t1146 x44_3).f0)) := (blk_cell BK1151.out 0).trans rfl; have hcz40_1 : w39.cell? ⟨gb1151, 1, none⟩ = some (.int .i64 ((rd_T34 t1146 x44_3).f1)) := (blk_cell BK1151.out 1).trans rfl; have hcz40_2 : w39.cell? ⟨gb1151, 2, none⟩ = some (.int .i64 ((rd_T34 t1146 x44_3).f2)) := (blk_cell BK1151.out 2).trans rfl; have hfz40_0 := blk_frozen BK1151.out 0; have hfz40_1 := blk_frozen BK1151.out 1; have hfz40_2 := blk_frozen BK1151.out 2) | ((with_reducible refine gate_builtin (b := .append) (xs := #[.tmp 54, .tmp 56]) rfl ?_); at_builtin; refine Kd.R_append k34 (w0 := w) w.heap.size rfl (.tmp 54) (.tmp 56) 56 34 (.agg #[(.int .i64 0), (.int .i64 0), (.int .i64 0)]) 24 rfl Try.underlying56 info34 rfl (by decide) (by omega) u10 x10_3 (⟨(rd_T34 t1146 x44_3).f0, (rd_T34 t1146 x44_3).f1, (rd_T34 t1146 x44_3).f2⟩ : S34) [.int .i64 ((rd_T34 t1146 x44_3).f0), .int .i64 ((rd_T34 t1146 x44_3).f1), .int .i64 ((rd_T34 t1146 x44_3).f2)] (fun k_ => (w.heap.size ≤ k_) ∧ some k_ ≠ (.slice (some ad1150) t1146.length co26 : Value).ownBlock ∧ k_ ≠ gb1130 ∧ k_ ≠ gb1145 ∧ k_ ≠ gb1151) (fun _ => False) rfl rfl ?aP (fun _ hk => hk.elim) ?aF ?aO ?aB ?aS ?aL ?_; (case aP => exact k34_mkM _ _ _ (⟨(rd_T34 t1146 x44_3).f0, (rd_T34 t1146 x44_3).f1, (rd_T34 t1146 x44_3).f2⟩ : S34)); (case aB => exact blA); (case aF => exact (fun k_ hk => ⟨(Nat.le_trans (below_size blA) hk), Kd.fresh' (Kd.R_lt (by (with_reducible repeat (first | apply Kd.R_alloc | apply Kd.R_drewN | apply Kd.R_drew)); exact HO_42.out)) k_ hk, Kd.freshB (bkA BK1130) k_ hk, Kd.freshB (bkA BK1145) k_ hk, Kd.freshB (bkA BK1151) k_ hk⟩)); (case aO => exact (by (with_reducible repeat (first | apply Kd.R_alloc | apply Kd.R_drewN | apply Kd.R_drew)); exact Kd.R_mono HO_10.out (fun _ hk => ⟨hk.1.1, ⟨hk.1.2.1, ⟨hk.1.2.2.1, ⟨hk.1.2.2.2, hk.2⟩⟩⟩⟩))); (case aS => exact (below_size blA)); (case aL => have := LMc32.out; omega); intro v1154 w41 ho hb hg hat; rw [← Ny1153.out] at ho; have n0_ := Aside0.mk (Kd.N_afterv (ok := (fun k_ => (w.heap.size ≤ k_) ∧ some k_ ≠ (.slice (some ad1150) t1146.length co26 : Value).ownBlock ∧ k_ ≠ gb1130 ∧ k_ ≠ gb1145 ∧ k_ ≠ gb1151)) (by (with_reducible repeat (first | apply Kd.N_alloc | apply Kd.N_drewN | apply Kd.N_drew)); exact Kd.N_mono HO_8.out (fun _ hk => ⟨⟨hk.1.1, ⟨hk.1.2.2.1, ⟨hk.1.2.2.2.1, ⟨hk.1.2.2.2.2, hk.2⟩⟩⟩⟩, hk.1.2.1⟩)) hg hat); have n1_ := Aside0.mk (Kd.V_afterv (ok := (fun k_ => (w.heap.size ≤ k_) ∧ some k_ ≠ (.slice (some ad1140) x8_1.length co16 : Value).ownBlock ∧ some k_ ≠ (.slice (some ad1150) t1146.length co26 : Value).ownBlock ∧ k_ ≠ gb1130 ∧ k_ ≠ gb1145 ∧ k_ ≠ gb1151)) (by (with_reducible repeat (first | apply Kd.V_alloc | apply Kd.V_drewN | apply Kd.V_drew)); exact Kd.V_mono HO_28.out (fun _ hk => ⟨⟨hk.1.1, ⟨hk.1.2.1, ⟨hk.1.2.2.2.1, ⟨hk.1.2.2.2.2.1, ⟨hk.1.2.2.2.2.2, hk.2⟩⟩⟩⟩⟩, hk.1.2.2.1⟩)) hg hat); have n2_ := Aside0.mk (Kd.R_after (ok := (fun k_ => (w.heap.size ≤ k_) ∧ k_ ≠ gb1130 ∧ k_ ≠ gb1145 ∧ k_ ≠ gb1151)) (by (with_reducible repeat (first | apply Kd.R_alloc | apply Kd.R_drewN | apply Kd.R_drew)); exact Kd.R_mono HO_42.out (fun _ hk => ⟨⟨hk.1.1, ⟨hk.1.2.2.1, ⟨hk.1.2.2.2, hk.2⟩⟩⟩, hk.1.2.1⟩)) hg hat); have n3_ := Aside0.mk (blk_grown (bkA BK1130) hg (Kd.R_away HO_10.out (fun _ hk => hk.1.2.2.1))); have n4_ := Aside0.mk (blk_grown (bkA BK1145) hg (Kd.R_away HO_10.out (fun _ hk => hk.1.2.2.2))); have n5_ := Aside0.mk (blk_grown (bkA BK1151) hg (Kd.R_away HO_10.out (fun _ hk => hk.2))); have n6_ := Aside0.mk (hb); have n7_ := Aside0.mk (ho); clear HO_8; clear HO_28; clear HO_42; clear BK1130; clear BK1145; clear BK1151; clear HB; clear HO_10; have HO_8 := n0_; have HO_28 := n1_; have HO_42 := n2_; have BK1130 := n3_; have BK1145 := n4_; have BK1151 := n5_; have HB := n6_; have HO1155 := n7_; clear n0_ n1_ n2_ n3_ n4_ n5_ n6_ n7_; clear ho hb hg hat))
                                      go_roundg k3
                                      case measure => have := HK1.out; have := HK2.out; have := HK3.out; omega
                                      case rel => exact ⟨(y1153), (wrap64 (x44_3 + 1)), (by first | rfl | (simp; done) | (simp [*]; done)), H', ⟨by have := HK1.out; have := HK2.out; have := HK3.out; omega⟩, ⟨by (with_reducible repeat (first | apply Kd.N_alloc | apply Kd.N_drewN | apply Kd.N_drew)); exact Kd.N_mono HO_8.out (fun _ hk => ⟨hk.1.1, ⟨hk.2, ⟨hk.1.2.1, ⟨hk.1.2.2.1, hk.1.2.2.2.1⟩⟩⟩⟩)⟩, ⟨by (with_reducible repeat (first | apply Kd.R_alloc | apply Kd.R_drewN | apply Kd.R_drew)); exact Kd.R_mono HO1155.out (fun _ hk => ⟨hk.1, ⟨hk.2.1, ⟨hk.2.2.1, hk.2.2.2.1⟩⟩⟩)⟩, ⟨by (with_reducible repeat (first | apply Kd.V_alloc | apply Kd.V_drewN | apply Kd.V_drew)); exact Kd.V_mono HO_28.out (fun _ hk => ⟨hk.1.1, ⟨hk.1.2.1, ⟨hk.2, ⟨hk.1.2.2.1, ⟨hk.1.2.2.2.1, hk.1.2.2.2.2.1⟩⟩⟩⟩⟩)⟩, ⟨by (with_reducible repeat (first | apply Kd.R_alloc | apply Kd.R_drewN | apply Kd.R_drew)); exact Kd.R_mono HO_42.out (fun _ hk => ⟨hk.1.1, ⟨hk.2, ⟨hk.1.2.1, hk.1.2.2.1⟩⟩⟩)⟩, ⟨bkA BK1130⟩, ⟨bkA BK1145⟩, ⟨blA⟩⟩
                                    · rw [if_neg c32] at H
                                      exact absurd H (by simp)
                                  · rw [if_neg c31] at H
                                    have c31b0 : decide (x21_1 < t1152) = false := decide_eq_false c31
                                    clear c31
                                    have H' := Aside0.mk H
                                    clear H
                                    have p1150 : 0 ≤ (x44_3 : Int) := of_decide_eq_true (by first | (with_reducible assumption) | assumption)
                                    have q1150 : x44_3 < (t1146.length : Int) := of_decide_eq_true (by first | (with_reducible assumption) | assumption)
                                    obtain ⟨ad1150, e1150, hx1150_0, hx1150_1, hx1150_2⟩ := at_T34 (Kd.R_reads' HO_42.out).2.2 x44_3 p1150 q1150
                                    cases e1150
                                    replace p1150 := eq_true p1150
                                    replace q1150 := eq_true q1150
                                    go_wp2_with (first | ((with_reducible refine gate_dst (N := 16) rfl ?_); refine box_event ?hg (N := 16) ?hd (cs := #[.int .i64 0, .int .i64 0, .int .i64 0]) (t := 34) ?hr ?_; (case hd => rfl); (case hg => rfl); (case hr => first | (go_simp; done) | (go_simp; rfl)); intro gb1151 hg w42 hbox hb; have n0_ := Aside0.mk (Kd.N_below (Kd.N_elderB (by (with_reducible repeat (first | apply Kd.N_alloc | apply Kd.N_drewN | apply Kd.N_drew)); exact HO_8.out) gb1151 (Nat.le_of_eq hg.symm)) hb); have n1_ := Aside0.mk (Kd.R_below (Kd.R_elderB (by (with_reducible repeat (first | apply Kd.R_alloc | apply Kd.R_drewN | apply Kd.R_drew)); exact HO_10.out) gb1151 (Nat.le_of_eq hg.symm)) hb); have n2_ := Aside0.mk (Kd.V_below (Kd.V_elderB (by (with_reducible repeat (first | apply Kd.V_alloc | apply Kd.V_drewN | apply Kd.V_drew)); exact HO_28.out) gb1151 (Nat.le_of_eq hg.symm)) hb); have n3_ := Aside0.mk (Kd.R_below (Kd.R_elderB (by (with_reducible repeat (first | apply Kd.R_alloc | apply Kd.R_drewN | apply Kd.R_drew)); exact HO_42.out) gb1151 (Nat.le_of_eq hg.symm)) hb); have n4_ := Aside0.mk (blk_below (bkA BK1130) hb); have n5_ := Aside0.mk (blk_below (bkA BK1145) hb); have n6_ := Aside0.mk (below_step blA hb); have n7_ := Aside0.mk (hbox); have n8_ := Aside0.mk (szA hg blA); have n9_ := Aside0.mk (szA hg blA); have n10_ := Aside0.mk (neA hg (bkA BK1130)); have n11_ := Aside0.mk (neB hg (bkA BK1130)); have n12_ := Aside0.mk (neA hg (bkA BK1145)); have n13_ := Aside0.mk (neB hg (bkA BK1145)); clear HO_8; clear HO_10; clear HO_28; clear HO_42; clear BK1130; clear BK1145; clear HB; have HO_8 := n0_; have HO_10 := n1_; have HO_28 := n2_; have HO_42 := n3_; have BK1130 := n4_; have BK1145 := n5_; have HB := n6_; have BK1151 := n7_; have GW1151 := n8_; have GE1151 := n9_; have NB1130_1151 := n10_; have NB1151_1130 := n11_; have NB1145_1151 := n12_; have NB1151_1145 := n13_; clear n0_ n1_ n2_ n3_ n4_ n5_ n6_ n7_ n8_ n9_ n10_ n11_ n12_ n13_; clear hb hbox hg; have hnb43 := NB1151_1130.out; have hnc43 := NB1130_1151.out; have hnb44 := NB1151_1145.out; have hnc44 := NB1145_1151.out; have hcz45_0 : w42.cell? ⟨gb1151, 0, none⟩ = some (.int .i64 0) := (blk_cell BK1151.out 0).trans rfl; have hcz45_1 : w42.cell? ⟨gb1151, 1, none⟩ = some (.int .i64 0) := (blk_cell BK1151.out 1).trans rfl; have hcz45_2 : w42.cell? ⟨gb1151, 2, none⟩ = some (.int .i64 0) := (blk_cell BK1151.out 2).trans rfl; have hfz45_0 := blk_frozen BK1151.out 0; have hfz45_1 := blk_frozen BK1151.out 1; have hfz45_2 := blk_frozen BK1151.out 2; have hnb46 := NB1130_1145.out; have hnc46 := NB1145_1130.out; have hcz47_0 : w42.cell? ⟨gb1130, 0, none⟩ = some (.int .i64 a1_0) := (blk_cell BK1130.out 0).trans rfl; have hcz47_1 : w42.cell? ⟨gb1130, 1, none⟩ = some (.int .i64 a1_1) := (blk_cell BK1130.out 1).trans rfl; have hcz47_2 : w42.cell? ⟨gb1130, 2, none⟩ = some (.int .i64 a1_2) := (blk_cell BK1130.out 2).trans rfl; have hfz47_0 := blk_frozen BK1130.out 0; have hfz47_1 := blk_frozen BK1130.out 1; have hfz47_2 := blk_frozen BK1130.out 2) | ((with_reducible refine gate_callee (f := 70) rfl ?_); refine goesL_ (some 51) rfl rfl Try.func70 (by kernel_rfl) rfl #[.int .i64 a0, .agg #[.int .i64 a1_0, .int .i64 a1_1, .int .i64 a1_2], .agg #[.int .i64 ((rd_T34 t1146 x44_3).f0), .int .i64 ((rd_T34 t1146 x44_3).f1), .int .i64 ((rd_T34 t1146 x44_3).f2)]] rfl (by (try simp only [List.map_toArray, List.map_cons, List.map_nil]); first | done | rfl | (simp only [List.length_drop, List.length_take]; rfl)) ?_; (with_reducible refine (impl_distance.calls k3 a0 a1_0 a1_1 a1_2 ((rd_T34 t1146 x44_3).f0) ((rd_T34 t1146 x44_3).f1) ((rd_T34 t1146 x44_3).f2) t1152 _ A30.out).mono ?_); rintro e w48 ⟨rfl, hb⟩; refine ⟨_, rfl, ?_⟩; have n0_ := Aside0.mk (Kd.N_below (by (with_reducible repeat (first | apply Kd.N_alloc | apply Kd.N_drewN | apply Kd.N_drew)); exact (Kd.N_mono (Kd.N_far (p := ⟨gb1151, 2, none⟩) (Kd.N_far (p := ⟨gb1151, 1, none⟩) (Kd.N_far (p := ⟨gb1151, 0, none⟩) (Kd.N_mono HO_8.out (fun k_ hk => (⟨hk, hk.2⟩ : _ ∧ k_ ≠ gb1151))) (fun _ hk => hk.2) (.int .i64 ((rd_T34 t1146 x44_3).f0))) (fun _ hk => hk.2) (.int .i64 ((rd_T34 t1146 x44_3).f1))) (fun _ hk => hk.2) (.int .i64 ((rd_T34 t1146 x44_3).f2))) (fun _ h_ => h_.1))) hb); have n1_ := Aside0.mk (Kd.R_below (by (with_reducible repeat (first | apply Kd.R_alloc | apply Kd.R_drewN | apply Kd.R_drew)); exact (Kd.R_mono (Kd.R_far (p := ⟨gb1151, 2, none⟩) (Kd.R_far (p := ⟨gb1151, 1, none⟩) (Kd.R_far (p := ⟨gb1151, 0, none⟩) (Kd.R_mono HO_10.out (fun k_ hk => (⟨hk, hk.2⟩ : _ ∧ k_ ≠ gb1151))) (fun _ hk => hk.2) (.int .i64 ((rd_T34 t1146 x44_3).f0))) (fun _ hk => hk.2) (.int .i64 ((rd_T34 t1146 x44_3).f1))) (fun _ hk => hk.2) (.int .i64 ((rd_T34 t1146 x44_3).f2))) (fun _ h_ => h_.1))) hb); have n2_ := Aside0.mk (Kd.V_below (by (with_reducible repeat (first | apply Kd.V_alloc | apply Kd.V_drewN | apply Kd.V_drew)); exact (Kd.V_mono (Kd.V_far (p := ⟨gb1151, 2, none⟩) (Kd.V_far (p := ⟨gb1151, 1, none⟩) (Kd.V_far (p := ⟨gb1151, 0, none⟩) (Kd.V_mono HO_28.out (fun k_ hk => (⟨hk, hk.2⟩ : _ ∧ k_ ≠ gb1151))) (fun _ hk => hk.2) (.int .i64 ((rd_T34 t1146 x44_3).f0))) (fun _ hk => hk.2) (.int .i64 ((rd_T34 t1146 x44_3).f1))) (fun _ hk => hk.2) (.int .i64 ((rd_T34 t1146 x44_3).f2))) (fun _ h_ => h_.1))) hb); have n3_ := Aside0.mk (Kd.R_below (by (with_reducible repeat (first | apply Kd.R_alloc | apply Kd.R_drewN | apply Kd.R_drew)); exact (Kd.R_mono (Kd.R_far (p := ⟨gb1151, 2, none⟩) (Kd.R_far (p := ⟨gb1151, 1, none⟩) (Kd.R_far (p := ⟨gb1151, 0, none⟩) (Kd.R_mono HO_42.out (fun k_ hk => (⟨hk, hk.2⟩ : _ ∧ k_ ≠ gb1151))) (fun _ hk => hk.2) (.int .i64 ((rd_T34 t1146 x44_3).f0))) (fun _ hk => hk.2) (.int .i64 ((rd_T34 t1146 x44_3).f1))) (fun _ hk => hk.2) (.int .i64 ((rd_T34 t1146 x44_3).f2))) (fun _ h_ => h_.1))) hb); have n4_ := Aside0.mk (blk_below (g := gb1130) (o := .cells #[.int .i64 a1_0, .int .i64 a1_1, .int .i64 a1_2] 34 (0, 0)) (by (with_reducible repeat (first | refine blk_drewN ?_ _ | refine blk_drew ?_ | refine blk_alloc ?_ _)); refine blk_far ?_ NB1130_1151.out _; (with_reducible repeat (first | refine blk_drewN ?_ _ | refine blk_drew ?_ | refine blk_alloc ?_ _)); refine blk_far ?_ NB1130_1151.out _; (with_reducible repeat (first | refine blk_drewN ?_ _ | refine blk_drew ?_ | refine blk_alloc ?_ _)); refine blk_far ?_ NB1130_1151.out _; (with_reducible repeat (first | refine blk_drewN ?_ _ | refine blk_drew ?_ | refine blk_alloc ?_ _)); exact BK1130.out) hb); have n5_ := Aside0.mk (blk_below (g := gb1145) (o := .cells #[.int .i64 ((rd_T34 (rd_L4 x8_1 x21_1) x30_2).f0), .int .i64 ((rd_T34 (rd_L4 x8_1 x21_1) x30_2).f1), .int .i64 ((rd_T34 (rd_L4 x8_1 x21_1) x30_2).f2)] 34 (0, 0)) (by (with_reducible repeat (first | refine blk_drewN ?_ _ | refine blk_drew ?_ | refine blk_alloc ?_ _)); refine blk_far ?_ NB1145_1151.out _; (with_reducible repeat (first | refine blk_drewN ?_ _ | refine blk_drew ?_ | refine blk_alloc ?_ _)); refine blk_far ?_ NB1145_1151.out _; (with_reducible repeat (first | refine blk_drewN ?_ _ | refine blk_drew ?_ | refine blk_alloc ?_ _)); refine blk_far ?_ NB1145_1151.out _; (with_reducible repeat (first | refine blk_drewN ?_ _ | refine blk_drew ?_ | refine blk_alloc ?_ _)); exact BK1145.out) hb); have n6_ := Aside0.mk (blk_below (g := gb1151) (o := .cells #[.int .i64 ((rd_T34 t1146 x44_3).f0), .int .i64 ((rd_T34 t1146 x44_3).f1), .int .i64 ((rd_T34 t1146 x44_3).f2)] 34 (0, 0)) (by (with_reducible repeat (first | refine blk_drewN ?_ _ | refine blk_drew ?_ | refine blk_alloc ?_ _)); refine blk_put (cs := #[.int .i64 ((rd_T34 t1146 x44_3).f0), .int .i64 ((rd_T34 t1146 x44_3).f1), .int .i64 0]) ?_ 2 _ rfl; (with_reducible repeat (first | refine blk_drewN ?_ _ | refine blk_drew ?_ | refine blk_alloc ?_ _)); refine blk_put (cs := #[.int .i64 ((rd_T34 t1146 x44_3).f0), .int .i64 0, .int .i64 0]) ?_ 1 _ rfl; (with_reducible repeat (first | refine blk_drewN ?_ _ | refine blk_drew ?_ | refine blk_alloc ?_ _)); refine blk_put (cs := #[.int .i64 0, .int .i64 0, .int .i64 0]) ?_ 0 _ rfl; (with_reducible repeat (first | refine blk_drewN ?_ _ | refine blk_drew ?_ | refine blk_alloc ?_ _)); exact BK1151.out) hb); have n7_ := Aside0.mk (below_step blA hb); clear HO_8; clear HO_10; clear HO_28; clear HO_42; clear BK1130; clear BK1145; clear BK1151; clear HB; have HO_8 := n0_; have HO_10 := n1_; have HO_28 := n2_; have HO_42 := n3_; have BK1130 := n4_; have BK1145 := n5_; have BK1151 := n6_; have HB := n7_; clear n0_ n1_ n2_ n3_ n4_ n5_ n6_ n7_; (try clear hb); (try clear hb2); (try clear hk); (try clear hi)))
                                    go_roundg k3
                                    case measure => have := HK1.out; have := HK2.out; have := HK3.out; omega
                                    case rel => exact ⟨(x10_3), (wrap64 (x44_3 + 1)), (by first | rfl | (simp; done) | (simp [*]; done)), H', ⟨by have := HK1.out; have := HK2.out; have := HK3.out; omega⟩, ⟨by (with_reducible repeat (first | apply Kd.N_alloc | apply Kd.N_drewN | apply Kd.N_drew)); exact Kd.N_mono HO_8.out (fun _ hk => ⟨hk.1.1, ⟨hk.1.2.1, ⟨hk.1.2.2.1, ⟨hk.1.2.2.2.1, hk.1.2.2.2.2⟩⟩⟩⟩)⟩, ⟨by (with_reducible repeat (first | apply Kd.R_alloc | apply Kd.R_drewN | apply Kd.R_drew)); exact Kd.R_mono HO_10.out (fun _ hk => ⟨hk.1.1, ⟨hk.1.2.1, ⟨hk.1.2.2.1, hk.1.2.2.2⟩⟩⟩)⟩, ⟨by (with_reducible repeat (first | apply Kd.V_alloc | apply Kd.V_drewN | apply Kd.V_drew)); exact Kd.V_mono HO_28.out (fun _ hk => ⟨hk.1.1, ⟨hk.1.2.1, ⟨hk.1.2.2.1, ⟨hk.1.2.2.2.1, ⟨hk.1.2.2.2.2.1, hk.1.2.2.2.2.2⟩⟩⟩⟩⟩)⟩, ⟨by (with_reducible repeat (first | apply Kd.R_alloc | apply Kd.R_drewN | apply Kd.R_drew)); exact Kd.R_mono HO_42.out (fun _ hk => ⟨hk.1.1, ⟨hk.1.2.1, ⟨hk.1.2.2.1, hk.1.2.2.2⟩⟩⟩)⟩, ⟨bkA BK1130⟩, ⟨bkA BK1145⟩, ⟨blA⟩⟩
                                · rw [if_neg c29] at H
                                  exact absurd H (by simp)
                              · rw [if_neg c28] at H
                                exact absurd H (by simp)
                            · rw [if_neg c27] at H
                              have c27b0 : decide (x44_3 < (t1146.length : Int)) = false := decide_eq_false c27
                              clear c27
                              have H' := Aside0.mk H
                              clear H
                              go_wp2
                              go_roundg k3
                              case measure => have := HK1.out; have := HK2.out; have := HK3.out; omega
                              case rel => exact ⟨(x10_3), (wrap64 (x30_2 + 1)), (by first | rfl | (simp; done) | (simp [*]; done)), H', ⟨by have := HK1.out; have := HK2.out; have := HK3.out; omega⟩, ⟨by (with_reducible repeat (first | apply Kd.N_alloc | apply Kd.N_drewN | apply Kd.N_drew)); exact Kd.N_mono HO_8.out (fun _ hk => ⟨hk.1, ⟨hk.2.1, hk.2.2.2.1⟩⟩)⟩, ⟨by (with_reducible repeat (first | apply Kd.R_alloc | apply Kd.R_drewN | apply Kd.R_drew)); exact Kd.R_mono HO_10.out (fun _ hk => ⟨hk.1, hk.2.2.1⟩)⟩, ⟨by (with_reducible repeat (first | apply Kd.V_alloc | apply Kd.V_drewN | apply Kd.V_drew)); exact Kd.V_mono HO_28.out (fun _ hk => ⟨hk.1, ⟨hk.2.1, ⟨hk.2.2.1, hk.2.2.2.2.1⟩⟩⟩)⟩, ⟨bkA BK1130⟩, ⟨blA⟩⟩
                      · replace c21 := Bool.eq_false_iff.mpr c21
                        subst c21
                        have H1 : (some (([] : List (List (S34))), false)) = some (r1, r2) := by rw [if_neg (show ¬ (false = true) by decide)] at H; exact H
                        clear H
                        have H := H1
                        clear H1
                        simp only [Option.some.injEq, Prod.mk.injEq] at H
                        obtain ⟨rfl, rfl⟩ := H
                        have p1144 : 0 ≤ (x30_2 : Int) := of_decide_eq_true (by first | (with_reducible assumption) | assumption)
                        have q1144 : x30_2 < ((rd_L4 x8_1 x21_1).length : Int) := of_decide_eq_true (by first | (with_reducible assumption) | assumption)
                        obtain ⟨ad1144, e1144, hx1144_0, hx1144_1, hx1144_2⟩ := at_T34 (Kd.V_reads' HO_28.out).2.2 x30_2 p1144 q1144
                        cases e1144
                        replace p1144 := eq_true p1144
                        replace q1144 := eq_true q1144
                        go_wp2_with (first | ((with_reducible refine gate_dst (N := 12) rfl ?_); refine box_event ?hg (N := 12) ?hd (cs := #[.int .i64 0, .int .i64 0, .int .i64 0]) (t := 34) ?hr ?_; (case hd => rfl); (case hg => rfl); (case hr => first | (go_simp; done) | (go_simp; rfl)); intro gb1145 hg w49 hbox hb; have n0_ := Aside0.mk (Kd.N_below (Kd.N_elderB (by (with_reducible repeat (first | apply Kd.N_alloc | apply Kd.N_drewN | apply Kd.N_drew)); exact HO_8.out) gb1145 (Nat.le_of_eq hg.symm)) hb); have n1_ := Aside0.mk (Kd.R_below (Kd.R_elderB (by (with_reducible repeat (first | apply Kd.R_alloc | apply Kd.R_drewN | apply Kd.R_drew)); exact HO_10.out) gb1145 (Nat.le_of_eq hg.symm)) hb); have n2_ := Aside0.mk (Kd.V_below (Kd.V_elderB (by (with_reducible repeat (first | apply Kd.V_alloc | apply Kd.V_drewN | apply Kd.V_drew)); exact HO_28.out) gb1145 (Nat.le_of_eq hg.symm)) hb); have n3_ := Aside0.mk (blk_below (bkA BK1130) hb); have n4_ := Aside0.mk (below_step blA hb); have n5_ := Aside0.mk (hbox); have n6_ := Aside0.mk (szA hg blA); have n7_ := Aside0.mk (szA hg blA); have n8_ := Aside0.mk (neA hg (bkA BK1130)); have n9_ := Aside0.mk (neB hg (bkA BK1130)); clear HO_8; clear HO_10; clear HO_28; clear BK1130; clear HB; have HO_8 := n0_; have HO_10 := n1_; have HO_28 := n2_; have BK1130 := n3_; have HB := n4_; have BK1145 := n5_; have GW1145 := n6_; have GE1145 := n7_; have NB1130_1145 := n8_; have NB1145_1130 := n9_; clear n0_ n1_ n2_ n3_ n4_ n5_ n6_ n7_ n8_ n9_; clear hb hbox hg; have hnb50 := NB1145_1130.out; have hnc50 := NB1130_1145.out; have hcz51_0 : w49.cell? ⟨gb1145, 0, none⟩ = some (.int .i64 0) := (blk_cell BK1145.out 0).trans rfl; have hcz51_1 : w49.cell? ⟨gb1145, 1, none⟩ = some (.int .i64 0) := (blk_cell BK1145.out 1).trans rfl; have hcz51_2 : w49.cell? ⟨gb1145, 2, none⟩ = some (.int .i64 0) := (blk_cell BK1145.out 2).trans rfl; have hfz51_0 := blk_frozen BK1145.out 0; have hfz51_1 := blk_frozen BK1145.out 1; have hfz51_2 := blk_frozen BK1145.out 2) | ((with_reducible refine gate_callee (f := 153) rfl ?_); refine goesL_ (some 37) rfl rfl Try.func153 (by kernel_rfl) rfl #[.int .i64 a0, .agg #[.int .i64 ((rd_T34 (rd_L4 x8_1 x21_1) x30_2).f0), .int .i64 ((rd_T34 (rd_L4 x8_1 x21_1) x30_2).f1), .int .i64 ((rd_T34 (rd_L4 x8_1 x21_1) x30_2).f2)], .int .i64 0] rfl (by (try simp only [List.map_toArray, List.map_cons, List.map_nil]); first | done | rfl | (simp only [List.length_drop, List.length_take]; rfl)) ?_; (with_reducible refine (impl_someNeighbours.calls k2 a0 ((rd_T34 (rd_L4 x8_1 x21_1) x30_2).f0) ((rd_T34 (rd_L4 x8_1 x21_1) x30_2).f1) ((rd_T34 (rd_L4 x8_1 x21_1) x30_2).f2) 0 t1146 false _ A20.out).mono ?_); rintro e w52 ⟨v1147, rfl, ho0, hb⟩; refine ⟨_, rfl, ?_⟩; have n0_ := Aside0.mk (Kd.N_elder' (by (with_reducible repeat (first | apply Kd.N_alloc | apply Kd.N_drewN | apply Kd.N_drew)); exact (Kd.N_mono (Kd.N_far (p := ⟨gb1145, 2, none⟩) (Kd.N_far (p := ⟨gb1145, 1, none⟩) (Kd.N_far (p := ⟨gb1145, 0, none⟩) (Kd.N_mono HO_8.out (fun k_ hk => (⟨hk, hk.2⟩ : _ ∧ k_ ≠ gb1145))) (fun _ hk => hk.2) (.int .i64 ((rd_T34 (rd_L4 x8_1 x21_1) x30_2).f0))) (fun _ hk => hk.2) (.int .i64 ((rd_T34 (rd_L4 x8_1 x21_1) x30_2).f1))) (fun _ hk => hk.2) (.int .i64 ((rd_T34 (rd_L4 x8_1 x21_1) x30_2).f2))) (fun _ h_ => h_.1))) (Kd.R_base ho0) hb); have n1_ := Aside0.mk (Kd.R_elder' (by (with_reducible repeat (first | apply Kd.R_alloc | apply Kd.R_drewN | apply Kd.R_drew)); exact (Kd.R_mono (Kd.R_far (p := ⟨gb1145, 2, none⟩) (Kd.R_far (p := ⟨gb1145, 1, none⟩) (Kd.R_far (p := ⟨gb1145, 0, none⟩) (Kd.R_mono HO_10.out (fun k_ hk => (⟨hk, hk.2⟩ : _ ∧ k_ ≠ gb1145))) (fun _ hk => hk.2) (.int .i64 ((rd_T34 (rd_L4 x8_1 x21_1) x30_2).f0))) (fun _ hk => hk.2) (.int .i64 ((rd_T34 (rd_L4 x8_1 x21_1) x30_2).f1))) (fun _ hk => hk.2) (.int .i64 ((rd_T34 (rd_L4 x8_1 x21_1) x30_2).f2))) (fun _ h_ => h_.1))) (Kd.R_base ho0) hb); have n2_ := Aside0.mk (Kd.V_elder' (by (with_reducible repeat (first | apply Kd.V_alloc | apply Kd.V_drewN | apply Kd.V_drew)); exact (Kd.V_mono (Kd.V_far (p := ⟨gb1145, 2, none⟩) (Kd.V_far (p := ⟨gb1145, 1, none⟩) (Kd.V_far (p := ⟨gb1145, 0, none⟩) (Kd.V_mono HO_28.out (fun k_ hk => (⟨hk, hk.2⟩ : _ ∧ k_ ≠ gb1145))) (fun _ hk => hk.2) (.int .i64 ((rd_T34 (rd_L4 x8_1 x21_1) x30_2).f0))) (fun _ hk => hk.2) (.int .i64 ((rd_T34 (rd_L4 x8_1 x21_1) x30_2).f1))) (fun _ hk => hk.2) (.int .i64 ((rd_T34 (rd_L4 x8_1 x21_1) x30_2).f2))) (fun _ h_ => h_.1))) (Kd.R_base ho0) hb); have n3_ := Aside0.mk (Kd.R_lower (Kd.R_newB (Kd.R_newB (Kd.R_new' (Kd.R_newM (M := fun k_ => (w.heap.size ≤ k_)) ho0 (below_size blA) (fun k_ h_ => h_)) (Kd.R_lt (by (with_reducible repeat (first | apply Kd.R_alloc | apply Kd.R_drewN | apply Kd.R_drew)); exact (Kd.R_mono (Kd.R_far (p := ⟨gb1145, 2, none⟩) (Kd.R_far (p := ⟨gb1145, 1, none⟩) (Kd.R_far (p := ⟨gb1145, 0, none⟩) (Kd.R_mono HO_10.out (fun k_ hk => (⟨hk, hk.2⟩ : _ ∧ k_ ≠ gb1145))) (fun _ hk => hk.2) (.int .i64 ((rd_T34 (rd_L4 x8_1 x21_1) x30_2).f0))) (fun _ hk => hk.2) (.int .i64 ((rd_T34 (rd_L4 x8_1 x21_1) x30_2).f1))) (fun _ hk => hk.2) (.int .i64 ((rd_T34 (rd_L4 x8_1 x21_1) x30_2).f2))) (fun _ h_ => h_.1))))) (g := gb1130) (o := .cells #[.int .i64 a1_0, .int .i64 a1_1, .int .i64 a1_2] 34 (0, 0)) (by (with_reducible repeat (first | refine blk_drewN ?_ _ | refine blk_drew ?_ | refine blk_alloc ?_ _)); refine blk_far ?_ NB1130_1145.out _; (with_reducible repeat (first | refine blk_drewN ?_ _ | refine blk_drew ?_ | refine blk_alloc ?_ _)); refine blk_far ?_ NB1130_1145.out _; (with_reducible repeat (first | refine blk_drewN ?_ _ | refine blk_drew ?_ | refine blk_alloc ?_ _)); refine blk_far ?_ NB1130_1145.out _; (with_reducible repeat (first | refine blk_drewN ?_ _ | refine blk_drew ?_ | refine blk_alloc ?_ _)); exact BK1130.out)) (g := gb1145) (o := .cells #[.int .i64 ((rd_T34 (rd_L4 x8_1 x21_1) x30_2).f0), .int .i64 ((rd_T34 (rd_L4 x8_1 x21_1) x30_2).f1), .int .i64 ((rd_T34 (rd_L4 x8_1 x21_1) x30_2).f2)] 34 (0, 0)) (by (with_reducible repeat (first | refine blk_drewN ?_ _ | refine blk_drew ?_ | refine blk_alloc ?_ _)); refine blk_put (cs := #[.int .i64 ((rd_T34 (rd_L4 x8_1 x21_1) x30_2).f0), .int .i64 ((rd_T34 (rd_L4 x8_1 x21_1) x30_2).f1), .int .i64 0]) ?_ 2 _ rfl; (with_reducible repeat (first | refine blk_drewN ?_ _ | refine blk_drew ?_ | refine blk_alloc ?_ _)); refine blk_put (cs := #[.int .i64 ((rd_T34 (rd_L4 x8_1 x21_1) x30_2).f0), .int .i64 0, .int .i64 0]) ?_ 1 _ rfl; (with_reducible repeat (first | refine blk_drewN ?_ _ | refine blk_drew ?_ | refine blk_alloc ?_ _)); refine blk_put (cs := #[.int .i64 0, .int .i64 0, .int .i64 0]) ?_ 0 _ rfl; (with_reducible repeat (first | refine blk_drewN ?_ _ | refine blk_drew ?_ | refine blk_alloc ?_ _)); exact BK1145.out)) (below_size blA)); have n4_ := Aside0.mk (blk_below (g := gb1130) (o := .cells #[.int .i64 a1_0, .int .i64 a1_1, .int .i64 a1_2] 34 (0, 0)) (by (with_reducible repeat (first | refine blk_drewN ?_ _ | refine blk_drew ?_ | refine blk_alloc ?_ _)); refine blk_far ?_ NB1130_1145.out _; (with_reducible repeat (first | refine blk_drewN ?_ _ | refine blk_drew ?_ | refine blk_alloc ?_ _)); refine blk_far ?_ NB1130_1145.out _; (with_reducible repeat (first | refine blk_drewN ?_ _ | refine blk_drew ?_ | refine blk_alloc ?_ _)); refine blk_far ?_ NB1130_1145.out _; (with_reducible repeat (first | refine blk_drewN ?_ _ | refine blk_drew ?_ | refine blk_alloc ?_ _)); exact BK1130.out) hb); have n5_ := Aside0.mk (blk_below (g := gb1145) (o := .cells #[.int .i64 ((rd_T34 (rd_L4 x8_1 x21_1) x30_2).f0), .int .i64 ((rd_T34 (rd_L4 x8_1 x21_1) x30_2).f1), .int .i64 ((rd_T34 (rd_L4 x8_1 x21_1) x30_2).f2)] 34 (0, 0)) (by (with_reducible repeat (first | refine blk_drewN ?_ _ | refine blk_drew ?_ | refine blk_alloc ?_ _)); refine blk_put (cs := #[.int .i64 ((rd_T34 (rd_L4 x8_1 x21_1) x30_2).f0), .int .i64 ((rd_T34 (rd_L4 x8_1 x21_1) x30_2).f1), .int .i64 0]) ?_ 2 _ rfl; (with_reducible repeat (first | refine blk_drewN ?_ _ | refine blk_drew ?_ | refine blk_alloc ?_ _)); refine blk_put (cs := #[.int .i64 ((rd_T34 (rd_L4 x8_1 x21_1) x30_2).f0), .int .i64 0, .int .i64 0]) ?_ 1 _ rfl; (with_reducible repeat (first | refine blk_drewN ?_ _ | refine blk_drew ?_ | refine blk_alloc ?_ _)); refine blk_put (cs := #[.int .i64 0, .int .i64 0, .int .i64 0]) ?_ 0 _ rfl; (with_reducible repeat (first | refine blk_drewN ?_ _ | refine blk_drew ?_ | refine blk_alloc ?_ _)); exact BK1145.out) hb); have n6_ := Aside0.mk (below_step blA hb); clear HO_8; clear HO_10; clear HO_28; clear BK1130; clear BK1145; clear HB; have HO_8 := n0_; have HO_10 := n1_; have HO_28 := n2_; have HO1148 := n3_; have BK1130 := n4_; have BK1145 := n5_; have HB := n6_; clear n0_ n1_ n2_ n3_ n4_ n5_ n6_; (try clear hb); (try clear hb2); (try clear hk); (try clear hi); (try clear ho0)))
                        go_ret2
                        exact ⟨_, by first | rfl | (simp [errW_none, errW_some] <;> rfl) | (simp [*, errW_none, errW_some] <;> rfl), by first | exact Kd.S_nil _ _ _ _ _ | exact Kd.N_nil _ _ _ _ _ | exact Kd.V_nil _ _ _ _ _ | exact Kd.Q_nil _ _ _ _ _ | exact Kd.R_nil _ _ _ _ _, blA⟩
                    · rw [if_neg c19] at H
                      exact absurd H (by simp)
                  · rw [if_neg c18] at H
                    exact absurd H (by simp)
                · rw [if_neg c17] at H
                  have c17b0 : decide (x30_2 < ((rd_L4 x8_1 x21_1).length : Int)) = false := decide_eq_false c17
                  clear c17
                  by_cases c53 : x8_1.length < 5864062014805
                  · rw [if_pos c53] at H
                    have LMc53 := Aside0.mk c53
                    clear c53
                    obtain ⟨y1141, hy1141⟩ : ∃ y_ : List (List (S34)), y_ = (x8_1 ++ [x10_2]) := ⟨_, rfl⟩
                    replace H : (impl_spheres.l0 k2 a0 y1141 a2 (wrap64 (x21_1 + 1)) a1_0 a1_1 a1_2) = some (r1, r2) := by first | (rw [hy1141]; with_reducible exact H) | (have H2_ := (Option.bind_some _ _).symm.trans H; rw [hy1141]; with_reducible exact H2_) | (have H2_ := (Option.bind_some _ _).symm.trans H; with_reducible exact H2_) | with_reducible exact H | (rw [hy1141]; exact H) | exact H
                    have Ny1141 := Aside0.mk hy1141
                    clear hy1141
                    have H' := Aside0.mk H
                    clear H
                    obtain ⟨Ao55, co55, eo55⟩ := Kd.R_slice HO_10.out
                    subst eo55
                    go_wp2_with (first | ((with_reducible refine gate_builtin (b := .append) (xs := #[.tmp 60, .tmp 62]) rfl ?_); at_builtin; refine Kd.N_append (Kd.slice 34 k34) (w0 := w) w.heap.size rfl (.tmp 60) (.tmp 62) 125 56 (.slice none 0 0) 24 rfl Try.underlying125 info56 rfl (by decide) (by omega) (.slice (some ad1140) x8_1.length co16) x8_1 x10_2 [.slice Ao55 x10_2.length co55] (fun k_ => (w.heap.size ≤ k_) ∧ k_ ≠ gb1130) (fun k_ => ((fun k_ => (w.heap.size ≤ k_) ∧ k_ ≠ gb1130)) k_ ∧ some k_ ≠ (.slice (some ad1140) x8_1.length co16 : Value).ownBlock) rfl rfl ?aP (fun _ hk => hk) ?aF ?aO ?aB ?aS ?aL ?_; (case aP => exact (Kd.FK_slice_mk (Kd.R_reads' (Kd.R_mono (ok' := (fun k_ => ((fun k_ => (w.heap.size ≤ k_) ∧ k_ ≠ gb1130)) k_ ∧ some k_ ≠ (.slice (some ad1140) x8_1.length co16 : Value).ownBlock)) (Kd.R_apart' (HO_10.out) (Kd.N_typed HO_8.out) (by decide)) (fun k_ hk => ⟨⟨hk.1.1, hk.1.2⟩, hk.2⟩))).2.1 (Kd.R_F (Kd.R_mono (ok' := (fun k_ => ((fun k_ => (w.heap.size ≤ k_) ∧ k_ ≠ gb1130)) k_ ∧ some k_ ≠ (.slice (some ad1140) x8_1.length co16 : Value).ownBlock)) (Kd.R_apart' (HO_10.out) (Kd.N_typed HO_8.out) (by decide)) (fun k_ hk => ⟨⟨hk.1.1, hk.1.2⟩, hk.2⟩))))); (case aB => exact blA); (case aF => exact (fun k_ hk => ⟨(Nat.le_trans (below_size blA) hk), Kd.freshB (bkA BK1130) k_ hk⟩)); (case aO => exact (by (with_reducible repeat (first | apply Kd.N_alloc | apply Kd.N_drewN | apply Kd.N_drew)); exact Kd.N_mono HO_8.out (fun _ hk => ⟨hk.1, hk.2.2⟩))); (case aS => exact (below_size blA)); (case aL => have := LMc53.out; omega); intro v1142 w54 ho hb hg hat; rw [← Ny1141.out] at ho; have n0_ := Aside0.mk (Kd.V_afterv (ok := (fun k_ => (w.heap.size ≤ k_) ∧ some k_ ≠ (.slice Ao55 x10_2.length co55 : Value).ownBlock ∧ k_ ≠ gb1130)) (by (with_reducible repeat (first | apply Kd.V_alloc | apply Kd.V_drewN | apply Kd.V_drew)); exact Kd.V_mono HO_28.out (fun _ hk => ⟨⟨hk.1, ⟨hk.2.2.1, hk.2.2.2⟩⟩, hk.2.1⟩)) hg hat); have n1_ := Aside0.mk (blk_grown (bkA BK1130) hg (Kd.N_ne HO_8.out BK1130.out (by decide))); have n2_ := Aside0.mk (hb); have n3_ := Aside0.mk (ho); clear HO_28; clear BK1130; clear HB; clear HO_8; clear HO_10; have HO_28 := n0_; have BK1130 := n1_; have HB := n2_; have HO1143 := n3_; clear n0_ n1_ n2_ n3_; clear ho hb hg hat))
                    go_roundg k2
                    case measure => have := HK1.out; have := HK2.out; omega
                    case rel => exact ⟨(y1141), (wrap64 (x21_1 + 1)), (by first | rfl | (simp; done) | (simp [*]; done)), H', ⟨by have := HK1.out; have := HK2.out; omega⟩, ⟨by (with_reducible repeat (first | apply Kd.N_alloc | apply Kd.N_drewN | apply Kd.N_drew)); exact HO1143.out⟩, ⟨bkA BK1130⟩, ⟨blA⟩⟩
                  · rw [if_neg c53] at H
                    exact absurd H (by simp)
          · rw [if_neg c13] at H
            exact absurd H (by simp)
        · rw [if_neg c12] at H
          exact absurd H (by simp)
      · rw [if_neg c11] at H
        have c11b0 : decide (x21_1 < a2) = false := decide_eq_false c11
        clear c11
        simp only [Option.some.injEq, Prod.mk.injEq] at H
        obtain ⟨rfl, rfl⟩ := H
        go_wp2
        go_ret2
        exact ⟨_, by first | rfl | (simp [errW_none, errW_some] <;> rfl) | (simp [*, errW_none, errW_some] <;> rfl), by (with_reducible repeat (first | apply Kd.N_alloc | apply Kd.N_drewN | apply Kd.N_drew)); exact Kd.N_mono HO_8.out (fun _ hk => hk.1), blA⟩
/-! ### spec_l06Region: function 101 -/
def spec_l06Region.l0 : Nat → Int → Int → List (S34) → Int → Option ((List (S34)))
  | 0, _, _, _, _ => none
  | k + 1, x0, x1, x5, x6 => if x6 ≤ x1 then ((spec_SphereAround.f k x0 0 0 0 x6).bind fun bt1106 => (if x5.length + bt1106.1.length < 5864062014805 then (spec_l06Region.l0 k x0 x1 (x5 ++ bt1106.1) (wrap64 (x6 + 1))) else (none))) else (some x5)
def spec_l06Region.f (k : Nat) (a0 : Int) (a1 : Int) : Option ((List (S34))) := spec_l06Region.l0 k a0 a1 (([] : List (S34))) 0
theorem spec_l06Region.mono_l : ∀ k, (∀ y0 y1 y2 y3, LeO (spec_l06Region.l0 k y0 y1 y2 y3) (spec_l06Region.l0 (k + 1) y0 y1 y2 y3))
  | 0 => fun _ _ _ _ r h => by simp [spec_l06Region.l0] at h
  | k + 1 => by
    have ih0 := spec_l06Region.mono_l k
    · intro y0 y1 y2 y3
      unfold spec_l06Region.l0
      repeat' first
      | (with_reducible exact ih0 _ _ _ _)
      | (with_reducible exact spec_SphereAround.mono _ _ _ _ _ _)
      | (with_reducible exact LeO.refl _)
      | (with_reducible exact LeO.none _)
      | (with_reducible refine LeO.ite ?_ ?_)
      | (with_reducible refine LeO.bind ?_ (fun _ => ?_))
      | exact ih0 _ _ _ _
      | exact spec_SphereAround.mono _ _ _ _ _ _
      | exact LeO.none _
      | refine LeO.ite ?_ ?_
      | refine LeO.bind ?_ (fun _ => ?_)
theorem spec_l06Region.mono : ∀ a0 a1 k, LeO (spec_l06Region.f k a0 a1) (spec_l06Region.f (k + 1) a0 a1) := by
  intro a0 a1 k
  have ih0 := spec_l06Region.mono_l k
  unfold spec_l06Region.f
  repeat' first
      | (with_reducible exact ih0 _ _ _ _)
      | (with_reducible exact spec_SphereAround.mono _ _ _ _ _ _)
      | (with_reducible exact LeO.refl _)
      | (with_reducible exact LeO.none _)
      | (with_reducible refine LeO.ite ?_ ?_)
      | (with_reducible refine LeO.bind ?_ (fun _ => ?_))
      | exact ih0 _ _ _ _
      | exact spec_SphereAround.mono _ _ _ _ _ _
      | exact LeO.none _
      | refine LeO.ite ?_ ?_
      | refine LeO.bind ?_ (fun _ => ?_)
set_option maxHeartbeats 8000000 in
set_option maxRecDepth 100000 in
theorem spec_l06Region.calls (k : Nat) (a0 : Int) (a1 : Int) (r : List (S34)) (w : World) (h : spec_l06Region.f k a0 a1 = some r) :
    Calls Try.prog 101 #[.int .i64 a0, .int .i64 a1] w fun e w' => ∃ v0_ : Value, e = .returned (v0_) ∧ Kd.R k34 34 w' w.heap.size (fun _ => True) v0_ r ∧ Below w.heap.size w w' := by
  have hu34 := Try.underlying34
  have HB := Aside0.mk (Below.refl w.heap.size w)
  have H : (spec_l06Region.l0 k a0 a1 (([] : List (S34))) 0) = some r := h
  clear h
  obtain ⟨y1103, hy1103⟩ : ∃ y_ : List (S34), y_ = (([] : List (S34))) := ⟨_, rfl⟩
  replace H : (spec_l06Region.l0 k a0 a1 y1103 0) = some r := by first | (rw [hy1103]; with_reducible exact H) | (have H2_ := (Option.bind_some _ _).symm.trans H; rw [hy1103]; with_reducible exact H2_) | (have H2_ := (Option.bind_some _ _).symm.trans H; with_reducible exact H2_) | with_reducible exact H | (rw [hy1103]; exact H) | exact H
  have Ny1103 := Aside0.mk hy1103
  clear hy1103
  have H' := Aside0.mk H
  clear H
  go_enter Try.func101, Try.ntmps101
  go_wp2_with (first | ((with_reducible refine gate_dst (N := 9) rfl ?_); refine Kd.R_lit k34 _ 34 ?hg (N := 9) ?hd (xs := ([] : List (S34))) (inner := []) (ok := fun _ => True) (okp := fun _ => True) ?hr ?hp (fun _ hk => hk) trivial (Below.refl _ _) (Nat.le_refl _) (by simp) ?_; (case hd => rfl); (case hg => rfl); (case hr => first | (go_simp; done) | (go_simp; rfl)); (case hp => exact (Reps.none _ _)); intro v1104 w3 ho4 hb hg_ hnew_; clear hg_ hnew_; (first | rw [← Ny1103.out] at ho4 | (simp only [Int.reduceToNat] at ho4; rw [← Ny1103.out] at ho4)); have n0_ := Aside0.mk (Kd.R_lower ho4 (below_size blA)); have n1_ := Aside0.mk (below_step blA hb); clear HB; have HO1105 := n0_; have HB := n1_; clear n0_ n1_; clear hb ho4))
  go_loopg [5, 6] k (fun kq v5 v6 w' => ∃ (x5_1 : List (S34)) (x6_1 : Int), v6 = .int .i64 x6_1 ∧ Aside0 (spec_l06Region.l0 kq a0 a1 x5_1 x6_1 = some r) ∧ Aside0 (kq ≤ k) ∧ Aside0 (Kd.R k34 34 w' w.heap.size (fun _ => True) v5 x5_1) ∧ Aside0 (Below w.heap.size w w'))
  case atStart => exact ⟨(y1103), (0), (by first | rfl | (simp; done) | (simp [*]; done)), H', ⟨Nat.le_refl _⟩, ⟨by (with_reducible repeat (first | apply Kd.R_alloc | apply Kd.R_drewN | apply Kd.R_drew)); exact HO1105.out⟩, ⟨blA⟩⟩
  case round =>
    clear H'
    try clear c1
    try clear p2
    obtain ⟨x5_1, x6_1, rfl, HA, HK1, HO_5, HB⟩ := hrel
    cases gk with
    | zero => exact absurd HA.out (by simp [spec_l06Region.l0])
    | succ k1 =>
      have H := HA.out
      clear HA
      simp only [spec_l06Region.l0] at H
      by_cases c5 : x6_1 ≤ a1
      · rw [if_pos c5] at H
        have c5b0 : decide (x6_1 ≤ a1) = true := decide_eq_true c5
        clear c5
        replace H := Option.bind_eq_some_iff.mp H
        obtain ⟨⟨t1106, t1109⟩, A60, H⟩ := H
        replace H : (if x5_1.length + t1106.length < 5864062014805 then (spec_l06Region.l0 k1 a0 a1 (x5_1 ++ t1106) (wrap64 (x6_1 + 1))) else (none)) = some r := H
        have A6 := Aside0.mk A60
        clear A60
        by_cases c7 : x5_1.length + t1106.length < 5864062014805
        · rw [if_pos c7] at H
          have LMc7 := Aside0.mk c7
          clear c7
          obtain ⟨y1110, hy1110⟩ : ∃ y_ : List (S34), y_ = (x5_1 ++ t1106) := ⟨_, rfl⟩
          replace H : (spec_l06Region.l0 k1 a0 a1 y1110 (wrap64 (x6_1 + 1))) = some r := by first | (rw [hy1110]; with_reducible exact H) | (have H2_ := (Option.bind_some _ _).symm.trans H; rw [hy1110]; with_reducible exact H2_) | (have H2_ := (Option.bind_some _ _).symm.trans H; with_reducible exact H2_) | with_reducible exact H | (rw [hy1110]; exact H) | exact H
          have Ny1110 := Aside0.mk hy1110
          clear hy1110
          have H' := Aside0.mk H
          clear H
          go_wp2_with (first | ((with_reducible refine gate_callee (f := 141) rfl ?_); refine goesL_ (some 19) rfl rfl Try.func141 (by kernel_rfl) rfl #[.int .i64 a0, .agg #[.int .i64 0, .int .i64 0, .int .i64 0], .int .i64 x6_1] rfl (by (try simp only [List.map_toArray, List.map_cons, List.map_nil]); first | done | rfl | (simp only [List.length_drop, List.length_take]; rfl)) ?_; (with_reducible refine (spec_SphereAround.calls k1 a0 0 0 0 x6_1 t1106 t1109 _ A6.out).mono ?_); rintro e w8 ⟨v1107, rfl, ho0, hb⟩; refine ⟨_, rfl, ?_⟩; have n0_ := Aside0.mk (Kd.R_elder' (by (with_reducible repeat (first | apply Kd.R_alloc | apply Kd.R_drewN | apply Kd.R_drew)); exact HO_5.out) (Kd.R_base ho0) hb); have n1_ := Aside0.mk (Kd.R_lower (Kd.R_new' ho0 (Kd.R_lt (by (with_reducible repeat (first | apply Kd.R_alloc | apply Kd.R_drewN | apply Kd.R_drew)); exact HO_5.out))) (below_size blA)); have n2_ := Aside0.mk (below_step blA hb); clear HO_5; clear HB; have HO_5 := n0_; have HO1108 := n1_; have HB := n2_; clear n0_ n1_ n2_; (try clear hb); (try clear hb2); (try clear hk); (try clear hi); (try clear ho0); obtain ⟨Ao10, co10, eo10⟩ := Kd.R_slice HO1108.out; subst eo10) | ((with_reducible refine gate_builtin (b := .append) (xs := #[.tmp 22, .tmp 23]) rfl ?_); at_builtin; refine Kd.R_append_rows k34 (w0 := w) w.heap.size rfl (.tmp 22) (.tmp 23) 56 34 (.agg #[(.int .i64 0), (.int .i64 0), (.int .i64 0)]) 24 rfl Try.underlying56 info34 rfl (by decide) (by omega) u5 x5_1 t1106 _ _ _ (fun k_ => some k_ ≠ (.slice Ao10 t1106.length co10 : Value).ownBlock) (fun _ => False) rfl rfl ?aO ?aR (fun _ _ h => h) (fun _ h => h.elim) ?aF ?aB ?aS ?aL ?_; (case aR => repeat (first | exact (Kd.R_reads' HO1108.out).2.2 | (with_reducible refine Kd.C_alloc ?_ _) | (with_reducible refine Kd.C_drewN ?_ _) | (with_reducible refine Kd.C_drew ?_))); (case aB => exact blA); (case aF => exact (fun k_ hk => Kd.fresh' (Kd.R_lt (by (with_reducible repeat (first | apply Kd.R_alloc | apply Kd.R_drewN | apply Kd.R_drew)); exact HO1108.out)) k_ hk)); (case aO => exact (by (with_reducible repeat (first | apply Kd.R_alloc | apply Kd.R_drewN | apply Kd.R_drew)); exact Kd.R_mono HO_5.out (fun _ hk => hk.2))); (case aS => exact (below_size blA)); (case aL => have := LMc7.out; omega); intro v1111 w9 ho hb hg hat; rw [← Ny1110.out] at ho; have n0_ := Aside0.mk (Kd.R_after (ok := (fun _ => True)) (by (with_reducible repeat (first | apply Kd.R_alloc | apply Kd.R_drewN | apply Kd.R_drew)); exact HO1108.out) hg hat); have n1_ := Aside0.mk (hb); have n2_ := Aside0.mk (ho); clear HO1108; clear HB; clear HO_5; have HO1108 := n0_; have HB := n1_; have HO1112 := n2_; clear n0_ n1_ n2_; clear ho hb hg hat))
          go_roundg k1
          case measure => have := HK1.out; omega
          case rel => exact ⟨(y1110), (wrap64 (x6_1 + 1)), (by first | rfl | (simp; done) | (simp [*]; done)), H', ⟨by have := HK1.out; omega⟩, ⟨by (with_reducible repeat (first | apply Kd.R_alloc | apply Kd.R_drewN | apply Kd.R_drew)); exact Kd.R_mono HO1112.out (fun _ hk => trivial)⟩, ⟨blA⟩⟩
        · rw [if_neg c7] at H
          exact absurd H (by simp)
      · rw [if_neg c5] at H
        have c5b0 : decide (x6_1 ≤ a1) = false := decide_eq_false c5
        clear c5
        obtain rfl := Option.some.inj H
        go_wp2
        go_ret
        exact ⟨_, by first | rfl | (simp [errW_none, errW_some] <;> rfl) | (simp [*, errW_none, errW_some] <;> rfl), by (with_reducible repeat (first | apply Kd.R_alloc | apply Kd.R_drewN | apply Kd.R_drew)); exact HO_5.out, blA⟩
/-! ### impl_region: function 103 -/
def impl_region.f (k : Nat) (a0 : Int) (a1 : Int) : Option ((List (S34))) := (impl_spheres.f k a0 0 0 0 a1).bind fun bt1164 => ((impl_Ball_143.f k bt1164.1).bind fun t1168 => (some t1168))
theorem impl_region.mono : ∀ a0 a1 k, LeO (impl_region.f k a0 a1) (impl_region.f (k + 1) a0 a1) := by
  intro a0 a1 k
  unfold impl_region.f
  repeat' first
      | (with_reducible exact impl_Ball_143.mono _ _)
      | (with_reducible exact impl_spheres.mono _ _ _ _ _ _)
      | (with_reducible exact LeO.refl _)
      | (with_reducible exact LeO.none _)
      | (with_reducible refine LeO.ite ?_ ?_)
      | (with_reducible refine LeO.bind ?_ (fun _ => ?_))
      | exact impl_Ball_143.mono _ _
      | exact impl_spheres.mono _ _ _ _ _ _
      | exact LeO.none _
      | refine LeO.ite ?_ ?_
      | refine LeO.bind ?_ (fun _ => ?_)
set_option maxHeartbeats 8000000 in
set_option maxRecDepth 100000 in
theorem impl_region.calls (k : Nat) (a0 : Int) (a1 : Int) (r : List (S34)) (w : World) (h : impl_region.f k a0 a1 = some r) :
    Calls Try.prog 103 #[.int .i64 a0, .int .i64 a1] w fun e w' => ∃ v0_ : Value, e = .returned (v0_) ∧ Kd.R k34 34 w' w.heap.size (fun _ => True) v0_ r ∧ Below w.heap.size w w' := by
  have hu34 := Try.underlying34
  have HB := Aside0.mk (Below.refl w.heap.size w)
  have H : ((impl_spheres.f k a0 0 0 0 a1).bind fun bt1164 => ((impl_Ball_143.f k bt1164.1).bind fun t1168 => (some t1168))) = some r := h
  clear h
  replace H := Option.bind_eq_some_iff.mp H
  obtain ⟨⟨t1164, t1167⟩, A30, H⟩ := H
  replace H : ((impl_Ball_143.f k t1164).bind fun t1168 => (some t1168)) = some r := H
  have A3 := Aside0.mk A30
  clear A30
  replace H := Option.bind_eq_some_iff.mp H
  obtain ⟨t1168, A40, H⟩ := H
  replace H : (some t1168) = some r := H
  have A4 := Aside0.mk A40
  clear A40
  obtain rfl := Option.some.inj H
  go_enter Try.func103, Try.ntmps103
  go_wp2_with (first | ((with_reducible refine gate_callee (f := 142) rfl ?_); refine goesL_ (some 11) rfl rfl Try.func142 (by kernel_rfl) rfl #[.int .i64 a0, .agg #[.int .i64 0, .int .i64 0, .int .i64 0], .int .i64 a1] rfl (by (try simp only [List.map_toArray, List.map_cons, List.map_nil]); first | done | rfl | (simp only [List.length_drop, List.length_take]; rfl)) ?_; (with_reducible refine (impl_spheres.calls k a0 0 0 0 a1 t1164 t1167 _ A3.out).mono ?_); rintro e w5 ⟨v1165, rfl, ho0, hb⟩; refine ⟨_, rfl, ?_⟩; have n0_ := Aside0.mk (Kd.N_lower (Kd.N_mono (ok' := fun k_ => True) ho0 (fun k_ hk_ => trivial)) (below_size blA)); have n1_ := Aside0.mk (below_step blA hb); clear HB; have HO1166 := n0_; have HB := n1_; clear n0_ n1_; (try clear hb); (try clear hb2); (try clear hk); (try clear hi); (try clear ho0); obtain ⟨Ao6, co6, eo6⟩ := Kd.N_slice HO1166.out; subst eo6) | ((with_reducible refine gate_callee (f := 143) rfl ?_); refine goesL_ (some 15) rfl rfl Try.func143 (by kernel_rfl) rfl #[.slice Ao6 t1164.length co6] rfl (by (try simp only [List.map_toArray, List.map_cons, List.map_nil]); first | done | rfl | (simp only [List.length_drop, List.length_take]; rfl)) ?_; (with_reducible refine (impl_Ball_143.calls k _ _ t1164 t1168 _ ?side1 ?side2 A4.out).mono ?_); (case side1 => repeat (first | exact (Kd.N_reads' HO1166.out).2.2 | (with_reducible refine Kd.C_alloc ?_ _) | (with_reducible refine Kd.C_drewN ?_ _) | (with_reducible refine Kd.C_drew ?_))); (case side2 => exact (Kd.N_reads' HO1166.out).2.1); rintro e w7 ⟨v1169, rfl, ho0, hb⟩; refine ⟨_, rfl, ?_⟩; have n0_ := Aside0.mk (Kd.N_elder' (by (with_reducible repeat (first | apply Kd.N_alloc | apply Kd.N_drewN | apply Kd.N_drew)); exact HO1166.out) (Kd.R_base ho0) hb); have n1_ := Aside0.mk (Kd.R_lower ho0 (below_size blA)); have n2_ := Aside0.mk (below_step blA hb); clear HO1166; clear HB; have HO1166 := n0_; have HO1170 := n1_; have HB := n2_; clear n0_ n1_ n2_; (try clear hb); (try clear hb2); (try clear hk); (try clear hi); (try clear ho0)))
  go_ret
  exact ⟨_, by first | rfl | (simp [errW_none, errW_some] <;> rfl) | (simp [*, errW_none, errW_some] <;> rfl), by (with_reducible repeat (first | apply Kd.R_alloc | apply Kd.R_drewN | apply Kd.R_drew)); exact HO1170.out, blA⟩
/-! ### spec_RegionOf: function 41 -/
def spec_RegionOf.f (k : Nat) (a0 : Int) (a1 : Int) : Option ((List (S34)) × Int) := (spec_l01Prime.f a0).bind fun t1113 => (if t1113 = true then ((spec_l01In.f a1 0 3).bind fun t1114 => (if t1114 = true then ((spec_l06Region.f k a0 a1).bind fun t1115 => (some (t1115, 0))) else (some (([] : List (S34)), 2)))) else (some (([] : List (S34)), 1)))
theorem spec_RegionOf.mono : ∀ a0 a1 k, LeO (spec_RegionOf.f k a0 a1) (spec_RegionOf.f (k + 1) a0 a1) := by
  intro a0 a1 k
  unfold spec_RegionOf.f
  repeat' first
      | (with_reducible exact spec_l06Region.mono _ _ _)
      | (with_reducible exact LeO.refl _)
      | (with_reducible exact LeO.none _)
      | (with_reducible refine LeO.ite ?_ ?_)
      | (with_reducible refine LeO.bind ?_ (fun _ => ?_))
      | exact spec_l06Region.mono _ _ _
      | exact LeO.none _
      | refine LeO.ite ?_ ?_
      | refine LeO.bind ?_ (fun _ => ?_)
set_option maxHeartbeats 8000000 in
set_option maxRecDepth 100000 in
theorem spec_RegionOf.calls (k : Nat) (a0 : Int) (a1 : Int) (r1 : List (S34)) (r2 : Int) (w : World) (h : spec_RegionOf.f k a0 a1 = some (r1, r2)) :
    Calls Try.prog 41 #[.int .i64 a0, .int .i64 a1] w fun e w' => ∃ v0_ : Value, e = .returned (.tuple #[v0_, .int .i64 r2]) ∧ Kd.R k34 34 w' w.heap.size (fun _ => True) v0_ r1 ∧ Below w.heap.size w w' := by
  have HB := Aside0.mk (Below.refl w.heap.size w)
  have H : ((spec_l01Prime.f a0).bind fun t1113 => (if t1113 = true then ((spec_l01In.f a1 0 3).bind fun t1114 => (if t1114 = true then ((spec_l06Region.f k a0 a1).bind fun t1115 => (some (t1115, 0))) else (some (([] : List (S34)), 2)))) else (some (([] : List (S34)), 1)))) = some (r1, r2) := h
  clear h
  replace H := Option.bind_eq_some_iff.mp H
  obtain ⟨t1113, A30, H⟩ := H
  replace H : (if t1113 = true then ((spec_l01In.f a1 0 3).bind fun t1114 => (if t1114 = true then ((spec_l06Region.f k a0 a1).bind fun t1115 => (some (t1115, 0))) else (some (([] : List (S34)), 2)))) else (some (([] : List (S34)), 1))) = some (r1, r2) := H
  have A3 := Aside0.mk A30
  clear A30
  by_cases c4 : t1113 = true
  · subst c4
    have H1 : ((spec_l01In.f a1 0 3).bind fun t1114 => (if t1114 = true then ((spec_l06Region.f k a0 a1).bind fun t1115 => (some (t1115, 0))) else (some (([] : List (S34)), 2)))) = some (r1, r2) := by rw [if_pos rfl] at H; exact H
    clear H
    have H := H1
    clear H1
    replace H := Option.bind_eq_some_iff.mp H
    obtain ⟨t1114, A50, H⟩ := H
    replace H : (if t1114 = true then ((spec_l06Region.f k a0 a1).bind fun t1115 => (some (t1115, 0))) else (some (([] : List (S34)), 2))) = some (r1, r2) := H
    have A5 := Aside0.mk A50
    clear A50
    by_cases c6 : t1114 = true
    · subst c6
      have H1 : ((spec_l06Region.f k a0 a1).bind fun t1115 => (some (t1115, 0))) = some (r1, r2) := by rw [if_pos rfl] at H; exact H
      clear H
      have H := H1
      clear H1
      replace H := Option.bind_eq_some_iff.mp H
      obtain ⟨t1115, A70, H⟩ := H
      replace H : (some (t1115, 0)) = some (r1, r2) := H
      have A7 := Aside0.mk A70
      clear A70
      simp only [Option.some.injEq, Prod.mk.injEq] at H
      obtain ⟨rfl, rfl⟩ := H
      go_enter Try.func41, Try.ntmps41
      go_wp2_with (first | ((with_reducible refine gate_callee (f := 100) rfl ?_); refine goesL_ (some 8) rfl rfl Try.func100 (by kernel_rfl) rfl #[.int .i64 a0] rfl (by (try simp only [List.map_toArray, List.map_cons, List.map_nil]); first | done | rfl | (simp only [List.length_drop, List.length_take]; rfl)) ?_; (with_reducible refine (spec_l01Prime.calls a0 true _ A3.out).mono ?_); rintro e w' ⟨rfl, ⟨nd, rfl⟩⟩; refine ⟨_, rfl, ?_⟩) | ((with_reducible refine gate_callee (f := 74) rfl ?_); refine goesL_ (some 12) rfl rfl Try.func74 (by kernel_rfl) rfl #[.int .i64 a1, .int .i64 0, .int .i64 3] rfl (by (try simp only [List.map_toArray, List.map_cons, List.map_nil]); first | done | rfl | (simp only [List.length_drop, List.length_take]; rfl)) ?_; (with_reducible refine (spec_l01In.calls a1 0 3 true _ A5.out).mono ?_); rintro e w' ⟨rfl, ⟨nd, rfl⟩⟩; refine ⟨_, rfl, ?_⟩) | ((with_reducible refine gate_callee (f := 101) rfl ?_); refine goesL_ (some 16) rfl rfl Try.func101 (by kernel_rfl) rfl #[.int .i64 a0, .int .i64 a1] rfl (by (try simp only [List.map_toArray, List.map_cons, List.map_nil]); first | done | rfl | (simp only [List.length_drop, List.length_take]; rfl)) ?_; (with_reducible refine (spec_l06Region.calls k a0 a1 t1115 _ A7.out).mono ?_); rintro e w8 ⟨v1116, rfl, ho0, hb⟩; refine ⟨_, rfl, ?_⟩; have n0_ := Aside0.mk (Kd.R_lower ho0 (below_size blA)); have n1_ := Aside0.mk (below_step blA hb); clear HB; have HO1117 := n0_; have HB := n1_; clear n0_ n1_; (try clear hb); (try clear hb2); (try clear hk); (try clear hi); (try clear ho0)))
      go_ret2
      exact ⟨_, by first | rfl | (simp [errW_none, errW_some] <;> rfl) | (simp [*, errW_none, errW_some] <;> rfl), by (with_reducible repeat (first | apply Kd.R_alloc | apply Kd.R_drewN | apply Kd.R_drew)); exact HO1117.out, blA⟩
    · replace c6 := Bool.eq_false_iff.mpr c6
      subst c6
      have H1 : (some (([] : List (S34)), 2)) = some (r1, r2) := by rw [if_neg (show ¬ (false = true) by decide)] at H; exact H
      clear H
      have H := H1
      clear H1
      simp only [Option.some.injEq, Prod.mk.injEq] at H
      obtain ⟨rfl, rfl⟩ := H
      go_enter Try.func41, Try.ntmps41
      go_wp2_with (first | ((with_reducible refine gate_callee (f := 100) rfl ?_); refine goesL_ (some 8) rfl rfl Try.func100 (by kernel_rfl) rfl #[.int .i64 a0] rfl (by (try simp only [List.map_toArray, List.map_cons, List.map_nil]); first | done | rfl | (simp only [List.length_drop, List.length_take]; rfl)) ?_; (with_reducible refine (spec_l01Prime.calls a0 true _ A3.out).mono ?_); rintro e w' ⟨rfl, ⟨nd, rfl⟩⟩; refine ⟨_, rfl, ?_⟩) | ((with_reducible refine gate_callee (f := 74) rfl ?_); refine goesL_ (some 12) rfl rfl Try.func74 (by kernel_rfl) rfl #[.int .i64 a1, .int .i64 0, .int .i64 3] rfl (by (try simp only [List.map_toArray, List.map_cons, List.map_nil]); first | done | rfl | (simp only [List.length_drop, List.length_take]; rfl)) ?_; (with_reducible refine (spec_l01In.calls a1 0 3 false _ A5.out).mono ?_); rintro e w' ⟨rfl, ⟨nd, rfl⟩⟩; refine ⟨_, rfl, ?_⟩))
      go_ret2
      exact ⟨_, by first | rfl | (simp [errW_none, errW_some] <;> rfl) | (simp [*, errW_none, errW_some] <;> rfl), by first | exact Kd.R_nil _ _ _ _ _ | exact Kd.N_nil _ _ _ _ _ | exact Kd.V_nil _ _ _ _ _ | exact Kd.Q_nil _ _ _ _ _ | exact Kd.S_nil _ _ _ _ _, blA⟩
  · replace c4 := Bool.eq_false_iff.mpr c4
    subst c4
    have H1 : (some (([] : List (S34)), 1)) = some (r1, r2) := by rw [if_neg (show ¬ (false = true) by decide)] at H; exact H
    clear H
    have H := H1
    clear H1
    simp only [Option.some.injEq, Prod.mk.injEq] at H
    obtain ⟨rfl, rfl⟩ := H
    go_enter Try.func41, Try.ntmps41
    go_wp2_with (first | ((with_reducible refine gate_callee (f := 100) rfl ?_); refine goesL_ (some 8) rfl rfl Try.func100 (by kernel_rfl) rfl #[.int .i64 a0] rfl (by (try simp only [List.map_toArray, List.map_cons, List.map_nil]); first | done | rfl | (simp only [List.length_drop, List.length_take]; rfl)) ?_; (with_reducible refine (spec_l01Prime.calls a0 false _ A3.out).mono ?_); rintro e w' ⟨rfl, ⟨nd, rfl⟩⟩; refine ⟨_, rfl, ?_⟩))
    go_ret2
    exact ⟨_, by first | rfl | (simp [errW_none, errW_some] <;> rfl) | (simp [*, errW_none, errW_some] <;> rfl), by first | exact Kd.R_nil _ _ _ _ _ | exact Kd.N_nil _ _ _ _ _ | exact Kd.V_nil _ _ _ _ _ | exact Kd.Q_nil _ _ _ _ _ | exact Kd.S_nil _ _ _ _ _, blA⟩
/-! ### impl_RegionOf: function 42 -/
def impl_RegionOf.f (k : Nat) (a0 : Int) (a1 : Int) : Option ((List (S34)) × Int) := (impl_isPrime.f a0).bind fun t1171 => (if t1171 = true then ((impl_isRadius.f a1).bind fun t1172 => (if t1172 = true then ((impl_region.f k a0 a1).bind fun t1173 => (some (t1173, 0))) else (some (([] : List (S34)), 2)))) else (some (([] : List (S34)), 1)))
theorem impl_RegionOf.mono : ∀ a0 a1 k, LeO (impl_RegionOf.f k a0 a1) (impl_RegionOf.f (k + 1) a0 a1) := by
  intro a0 a1 k
  unfold impl_RegionOf.f
  repeat' first
      | (with_reducible exact impl_region.mono _ _ _)
      | (with_reducible exact LeO.refl _)
      | (with_reducible exact LeO.none _)
      | (with_reducible refine LeO.ite ?_ ?_)
      | (with_reducible refine LeO.bind ?_ (fun _ => ?_))
      | exact impl_region.mono _ _ _
      | exact LeO.none _
      | refine LeO.ite ?_ ?_
      | refine LeO.bind ?_ (fun _ => ?_)
set_option maxHeartbeats 8000000 in
set_option maxRecDepth 100000 in
theorem impl_RegionOf.calls (k : Nat) (a0 : Int) (a1 : Int) (r1 : List (S34)) (r2 : Int) (w : World) (h : impl_RegionOf.f k a0 a1 = some (r1, r2)) :
    Calls Try.prog 42 #[.int .i64 a0, .int .i64 a1] w fun e w' => ∃ v0_ : Value, e = .returned (.tuple #[v0_, .int .i64 r2]) ∧ Kd.R k34 34 w' w.heap.size (fun _ => True) v0_ r1 ∧ Below w.heap.size w w' := by
  have HB := Aside0.mk (Below.refl w.heap.size w)
  have H : ((impl_isPrime.f a0).bind fun t1171 => (if t1171 = true then ((impl_isRadius.f a1).bind fun t1172 => (if t1172 = true then ((impl_region.f k a0 a1).bind fun t1173 => (some (t1173, 0))) else (some (([] : List (S34)), 2)))) else (some (([] : List (S34)), 1)))) = some (r1, r2) := h
  clear h
  replace H := Option.bind_eq_some_iff.mp H
  obtain ⟨t1171, A30, H⟩ := H
  replace H : (if t1171 = true then ((impl_isRadius.f a1).bind fun t1172 => (if t1172 = true then ((impl_region.f k a0 a1).bind fun t1173 => (some (t1173, 0))) else (some (([] : List (S34)), 2)))) else (some (([] : List (S34)), 1))) = some (r1, r2) := H
  have A3 := Aside0.mk A30
  clear A30
  by_cases c4 : t1171 = true
  · subst c4
    have H1 : ((impl_isRadius.f a1).bind fun t1172 => (if t1172 = true then ((impl_region.f k a0 a1).bind fun t1173 => (some (t1173, 0))) else (some (([] : List (S34)), 2)))) = some (r1, r2) := by rw [if_pos rfl] at H; exact H
    clear H
    have H := H1
    clear H1
    replace H := Option.bind_eq_some_iff.mp H
    obtain ⟨t1172, A50, H⟩ := H
    replace H : (if t1172 = true then ((impl_region.f k a0 a1).bind fun t1173 => (some (t1173, 0))) else (some (([] : List (S34)), 2))) = some (r1, r2) := H
    have A5 := Aside0.mk A50
    clear A50
    by_cases c6 : t1172 = true
    · subst c6
      have H1 : ((impl_region.f k a0 a1).bind fun t1173 => (some (t1173, 0))) = some (r1, r2) := by rw [if_pos rfl] at H; exact H
      clear H
      have H := H1
      clear H1
      replace H := Option.bind_eq_some_iff.mp H
      obtain ⟨t1173, A70, H⟩ := H
      replace H : (some (t1173, 0)) = some (r1, r2) := H
      have A7 := Aside0.mk A70
      clear A70
      simp only [Option.some.injEq, Prod.mk.injEq] at H
      obtain ⟨rfl, rfl⟩ := H
      go_enter Try.func42, Try.ntmps42
      go_wp2_with (first | ((with_reducible refine gate_callee (f := 85) rfl ?_); refine goesL_ (some 8) rfl rfl Try.func85 (by kernel_rfl) rfl #[.int .i64 a0] rfl (by (try simp only [List.map_toArray, List.map_cons, List.map_nil]); first | done | rfl | (simp only [List.length_drop, List.length_take]; rfl)) ?_; (with_reducible refine (impl_isPrime.calls a0 true _ A3.out).mono ?_); rintro e w' ⟨rfl, ⟨nd, rfl⟩⟩; refine ⟨_, rfl, ?_⟩) | ((with_reducible refine gate_callee (f := 102) rfl ?_); refine goesL_ (some 12) rfl rfl Try.func102 (by kernel_rfl) rfl #[.int .i64 a1] rfl (by (try simp only [List.map_toArray, List.map_cons, List.map_nil]); first | done | rfl | (simp only [List.length_drop, List.length_take]; rfl)) ?_; (with_reducible refine (impl_isRadius.calls a1 true _ A5.out).mono ?_); rintro e w' ⟨rfl, ⟨nd, rfl⟩⟩; refine ⟨_, rfl, ?_⟩) | ((with_reducible refine gate_callee (f := 103) rfl ?_); refine goesL_ (some 16) rfl rfl Try.func103 (by kernel_rfl) rfl #[.int .i64 a0, .int .i64 a1] rfl (by (try simp only [List.map_toArray, List.map_cons, List.map_nil]); first | done | rfl | (simp only [List.length_drop, List.length_take]; rfl)) ?_; (with_reducible refine (impl_region.calls k a0 a1 t1173 _ A7.out).mono ?_); rintro e w8 ⟨v1174, rfl, ho0, hb⟩; refine ⟨_, rfl, ?_⟩; have n0_ := Aside0.mk (Kd.R_lower ho0 (below_size blA)); have n1_ := Aside0.mk (below_step blA hb); clear HB; have HO1175 := n0_; have HB := n1_; clear n0_ n1_; (try clear hb); (try clear hb2); (try clear hk); (try clear hi); (try clear ho0)))
      go_ret2
      exact ⟨_, by first | rfl | (simp [errW_none, errW_some] <;> rfl) | (simp [*, errW_none, errW_some] <;> rfl), by (with_reducible repeat (first | apply Kd.R_alloc | apply Kd.R_drewN | apply Kd.R_drew)); exact HO1175.out, blA⟩
    · replace c6 := Bool.eq_false_iff.mpr c6
      subst c6
      have H1 : (some (([] : List (S34)), 2)) = some (r1, r2) := by rw [if_neg (show ¬ (false = true) by decide)] at H; exact H
      clear H
      have H := H1
      clear H1
      simp only [Option.some.injEq, Prod.mk.injEq] at H
      obtain ⟨rfl, rfl⟩ := H
      go_enter Try.func42, Try.ntmps42
      go_wp2_with (first | ((with_reducible refine gate_callee (f := 85) rfl ?_); refine goesL_ (some 8) rfl rfl Try.func85 (by kernel_rfl) rfl #[.int .i64 a0] rfl (by (try simp only [List.map_toArray, List.map_cons, List.map_nil]); first | done | rfl | (simp only [List.length_drop, List.length_take]; rfl)) ?_; (with_reducible refine (impl_isPrime.calls a0 true _ A3.out).mono ?_); rintro e w' ⟨rfl, ⟨nd, rfl⟩⟩; refine ⟨_, rfl, ?_⟩) | ((with_reducible refine gate_callee (f := 102) rfl ?_); refine goesL_ (some 12) rfl rfl Try.func102 (by kernel_rfl) rfl #[.int .i64 a1] rfl (by (try simp only [List.map_toArray, List.map_cons, List.map_nil]); first | done | rfl | (simp only [List.length_drop, List.length_take]; rfl)) ?_; (with_reducible refine (impl_isRadius.calls a1 false _ A5.out).mono ?_); rintro e w' ⟨rfl, ⟨nd, rfl⟩⟩; refine ⟨_, rfl, ?_⟩))
      go_ret2
      exact ⟨_, by first | rfl | (simp [errW_none, errW_some] <;> rfl) | (simp [*, errW_none, errW_some] <;> rfl), by first | exact Kd.R_nil _ _ _ _ _ | exact Kd.N_nil _ _ _ _ _ | exact Kd.V_nil _ _ _ _ _ | exact Kd.Q_nil _ _ _ _ _ | exact Kd.S_nil _ _ _ _ _, blA⟩
  · replace c4 := Bool.eq_false_iff.mpr c4
    subst c4
    have H1 : (some (([] : List (S34)), 1)) = some (r1, r2) := by rw [if_neg (show ¬ (false = true) by decide)] at H; exact H
    clear H
    have H := H1
    clear H1
    simp only [Option.some.injEq, Prod.mk.injEq] at H
    obtain ⟨rfl, rfl⟩ := H
    go_enter Try.func42, Try.ntmps42
    go_wp2_with (first | ((with_reducible refine gate_callee (f := 85) rfl ?_); refine goesL_ (some 8) rfl rfl Try.func85 (by kernel_rfl) rfl #[.int .i64 a0] rfl (by (try simp only [List.map_toArray, List.map_cons, List.map_nil]); first | done | rfl | (simp only [List.length_drop, List.length_take]; rfl)) ?_; (with_reducible refine (impl_isPrime.calls a0 false _ A3.out).mono ?_); rintro e w' ⟨rfl, ⟨nd, rfl⟩⟩; refine ⟨_, rfl, ?_⟩))
    go_ret2
    exact ⟨_, by first | rfl | (simp [errW_none, errW_some] <;> rfl) | (simp [*, errW_none, errW_some] <;> rfl), by first | exact Kd.R_nil _ _ _ _ _ | exact Kd.N_nil _ _ _ _ _ | exact Kd.V_nil _ _ _ _ _ | exact Kd.Q_nil _ _ _ _ _ | exact Kd.S_nil _ _ _ _ _, blA⟩
/-! ### laws_FnExactRegionOf: function 11 -/
mutual
def laws_FnExactRegionOf.j0 : Nat → Int → Int → List (S34) → Int → List (S34) → Bool → Option (Bool)
  | 0, _, _, _, _, _, _ => none
  | k + 1, x0, x1, x5, x6, x7, x33 => if x33 = true then (none) else ((laws_markBallS.f k x7 1).bind fun bt1194 => ((laws_heldBallS.f k bt1194.2 1).bind fun t1196 => (if t1196 < 0 then (none) else (if t1196 = bt1194.1 then ((impl_RegionOf.f k x0 x1).bind fun bt1197 => ((laws_eqBallS.f k bt1197.1 x5).bind fun t1201 => (if t1201 = true then (laws_FnExactRegionOf.j1 k bt1194.2 bt1194.1 (bt1197.2 != x6)) else (laws_FnExactRegionOf.j1 k bt1194.2 bt1194.1 true)))) else (none)))))
def laws_FnExactRegionOf.j1 : Nat → List (S34) → Int → Bool → Option (Bool)
  | 0, _, _, _ => none
  | k + 1, x7, x9, x59 => if x59 = true then (none) else ((laws_heldBallS.f k x7 1).bind fun t1202 => (if t1202 < 0 then (none) else (if t1202 = x9 then (some true) else (none))))
end
def laws_FnExactRegionOf.f (k : Nat) (a0 : Int) (a1 : Int) : Option (Bool) := (spec_RegionOf.f k a0 a1).bind fun bt1185 => ((impl_RegionOf.f k a0 a1).bind fun bt1189 => ((laws_eqBallS.f k bt1189.1 bt1185.1).bind fun t1193 => (if t1193 = true then (laws_FnExactRegionOf.j0 k a0 a1 bt1185.1 bt1185.2 bt1189.1 (bt1189.2 != bt1185.2)) else (laws_FnExactRegionOf.j0 k a0 a1 bt1185.1 bt1185.2 bt1189.1 true))))
theorem laws_FnExactRegionOf.mono_l : ∀ k, (∀ y0 y1 y2 y3 y4 y5, LeO (laws_FnExactRegionOf.j0 k y0 y1 y2 y3 y4 y5) (laws_FnExactRegionOf.j0 (k + 1) y0 y1 y2 y3 y4 y5)) ∧ (∀ y0 y1 y2, LeO (laws_FnExactRegionOf.j1 k y0 y1 y2) (laws_FnExactRegionOf.j1 (k + 1) y0 y1 y2))
  | 0 => ⟨fun _ _ _ _ _ _ r h => by simp [laws_FnExactRegionOf.j0] at h, fun _ _ _ r h => by simp [laws_FnExactRegionOf.j1] at h⟩
  | k + 1 => by
    obtain ⟨ih0, ih1⟩ := laws_FnExactRegionOf.mono_l k
    refine ⟨?_, ?_⟩
    · intro y0 y1 y2 y3 y4 y5
      unfold laws_FnExactRegionOf.j0
      repeat' first
      | (with_reducible exact ih0 _ _ _ _ _ _)
      | (with_reducible exact ih1 _ _ _)
      | (with_reducible exact impl_RegionOf.mono _ _ _)
      | (with_reducible exact laws_eqBallS.mono _ _ _)
      | (with_reducible exact laws_heldBallS.mono _ _ _)
      | (with_reducible exact laws_markBallS.mono _ _ _)
      | (with_reducible exact spec_RegionOf.mono _ _ _)
      | (with_reducible exact LeO.refl _)
      | (with_reducible exact LeO.none _)
      | (with_reducible refine LeO.ite ?_ ?_)
      | (with_reducible refine LeO.bind ?_ (fun _ => ?_))
      | exact ih0 _ _ _ _ _ _
      | exact ih1 _ _ _
      | exact impl_RegionOf.mono _ _ _
      | exact laws_eqBallS.mono _ _ _
      | exact laws_heldBallS.mono _ _ _
      | exact laws_markBallS.mono _ _ _
      | exact spec_RegionOf.mono _ _ _
      | exact LeO.none _
      | refine LeO.ite ?_ ?_
      | refine LeO.bind ?_ (fun _ => ?_)
    · intro y0 y1 y2
      unfold laws_FnExactRegionOf.j1
      repeat' first
      | (with_reducible exact ih0 _ _ _ _ _ _)
      | (with_reducible exact ih1 _ _ _)
      | (with_reducible exact impl_RegionOf.mono _ _ _)
      | (with_reducible exact laws_eqBallS.mono _ _ _)
      | (with_reducible exact laws_heldBallS.mono _ _ _)
      | (with_reducible exact laws_markBallS.mono _ _ _)
      | (with_reducible exact spec_RegionOf.mono _ _ _)
      | (with_reducible exact LeO.refl _)
      | (with_reducible exact LeO.none _)
      | (with_reducible refine LeO.ite ?_ ?_)
      | (with_reducible refine LeO.bind ?_ (fun _ => ?_))
      | exact ih0 _ _ _ _ _ _
      | exact ih1 _ _ _
      | exact impl_RegionOf.mono _ _ _
      | exact laws_eqBallS.mono _ _ _
      | exact laws_heldBallS.mono _ _ _
      | exact laws_markBallS.mono _ _ _
      | exact spec_RegionOf.mono _ _ _
      | exact LeO.none _
      | refine LeO.ite ?_ ?_
      | refine LeO.bind ?_ (fun _ => ?_)
theorem laws_FnExactRegionOf.mono : ∀ a0 a1 k, LeO (laws_FnExactRegionOf.f k a0 a1) (laws_FnExactRegionOf.f (k + 1) a0 a1) := by
  intro a0 a1 k
  obtain ⟨ih0, ih1⟩ := laws_FnExactRegionOf.mono_l k
  unfold laws_FnExactRegionOf.f
  repeat' first
      | (with_reducible exact ih0 _ _ _ _ _ _)
      | (with_reducible exact ih1 _ _ _)
      | (with_reducible exact impl_RegionOf.mono _ _ _)
      | (with_reducible exact laws_eqBallS.mono _ _ _)
      | (with_reducible exact laws_heldBallS.mono _ _ _)
      | (with_reducible exact laws_markBallS.mono _ _ _)
      | (with_reducible exact spec_RegionOf.mono _ _ _)
      | (with_reducible exact LeO.refl _)
      | (with_reducible exact LeO.none _)
      | (with_reducible refine LeO.ite ?_ ?_)
      | (with_reducible refine LeO.bind ?_ (fun _ => ?_))
      | exact ih0 _ _ _ _ _ _
      | exact ih1 _ _ _
      | exact impl_RegionOf.mono _ _ _
      | exact laws_eqBallS.mono _ _ _
      | exact laws_heldBallS.mono _ _ _
      | exact laws_markBallS.mono _ _ _
      | exact spec_RegionOf.mono _ _ _
      | exact LeO.none _
      | refine LeO.ite ?_ ?_
      | refine LeO.bind ?_ (fun _ => ?_)
set_option maxHeartbeats 8000000 in
set_option maxRecDepth 100000 in
theorem laws_FnExactRegionOf.calls (k : Nat) (a0 : Int) (a1 : Int) (r : Bool) (w : World) (h : laws_FnExactRegionOf.f k a0 a1 = some r) :
    Calls Try.prog 11 #[.int .i64 a0, .int .i64 a1] w fun e w' => e = .returned (.bool r) ∧ Below w.heap.size w w' := by
  have HB := Aside0.mk (Below.refl w.heap.size w)
  have H : ((spec_RegionOf.f k a0 a1).bind fun bt1185 => ((impl_RegionOf.f k a0 a1).bind fun bt1189 => ((laws_eqBallS.f k bt1189.1 bt1185.1).bind fun t1193 => (if t1193 = true then (laws_FnExactRegionOf.j0 k a0 a1 bt1185.1 bt1185.2 bt1189.1 (bt1189.2 != bt1185.2)) else (laws_FnExactRegionOf.j0 k a0 a1 bt1185.1 bt1185.2 bt1189.1 true))))) = some r := h
  clear h
  replace H := Option.bind_eq_some_iff.mp H
  obtain ⟨⟨t1185, t1186⟩, A30, H⟩ := H
  replace H : ((impl_RegionOf.f k a0 a1).bind fun bt1189 => ((laws_eqBallS.f k bt1189.1 t1185).bind fun t1193 => (if t1193 = true then (laws_FnExactRegionOf.j0 k a0 a1 t1185 t1186 bt1189.1 (bt1189.2 != t1186)) else (laws_FnExactRegionOf.j0 k a0 a1 t1185 t1186 bt1189.1 true)))) = some r := H
  have A3 := Aside0.mk A30
  clear A30
  replace H := Option.bind_eq_some_iff.mp H
  obtain ⟨⟨t1189, t1190⟩, A40, H⟩ := H
  replace H : ((laws_eqBallS.f k t1189 t1185).bind fun t1193 => (if t1193 = true then (laws_FnExactRegionOf.j0 k a0 a1 t1185 t1186 t1189 (t1190 != t1186)) else (laws_FnExactRegionOf.j0 k a0 a1 t1185 t1186 t1189 true))) = some r := H
  have A4 := Aside0.mk A40
  clear A40
  have HC5 := Aside0.mk H
  clear H
  go_enter Try.func11, Try.ntmps11
  go_upto_region 3 with (first | ((with_reducible refine gate_callee (f := 41) rfl ?_); refine goesL_ (some 16) rfl rfl Try.func41 (by kernel_rfl) rfl #[.int .i64 a0, .int .i64 a1] rfl (by (try simp only [List.map_toArray, List.map_cons, List.map_nil]); first | done | rfl | (simp only [List.length_drop, List.length_take]; rfl)) ?_; (with_reducible refine (spec_RegionOf.calls k a0 a1 t1185 t1186 _ A3.out).mono ?_); rintro e w6 ⟨v1187, rfl, ho0, hb⟩; refine ⟨_, rfl, ?_⟩; have n0_ := Aside0.mk (Kd.R_lower ho0 (below_size blA)); have n1_ := Aside0.mk (below_step blA hb); clear HB; have HO1188 := n0_; have HB := n1_; clear n0_ n1_; (try clear hb); (try clear hb2); (try clear hk); (try clear hi); (try clear ho0)) | ((with_reducible refine gate_callee (f := 42) rfl ?_); refine goesL_ (some 22) rfl rfl Try.func42 (by kernel_rfl) rfl #[.int .i64 a0, .int .i64 a1] rfl (by (try simp only [List.map_toArray, List.map_cons, List.map_nil]); first | done | rfl | (simp only [List.length_drop, List.length_take]; rfl)) ?_; (with_reducible refine (impl_RegionOf.calls k a0 a1 t1189 t1190 _ A4.out).mono ?_); rintro e w7 ⟨v1191, rfl, ho0, hb⟩; refine ⟨_, rfl, ?_⟩; have n0_ := Aside0.mk (Kd.R_elder' (by (with_reducible repeat (first | apply Kd.R_alloc | apply Kd.R_drewN | apply Kd.R_drew)); exact HO1188.out) (Kd.R_base ho0) hb); have n1_ := Aside0.mk (Kd.R_lower (Kd.R_new' ho0 (Kd.R_lt (by (with_reducible repeat (first | apply Kd.R_alloc | apply Kd.R_drewN | apply Kd.R_drew)); exact HO1188.out))) (below_size blA)); have n2_ := Aside0.mk (below_step blA hb); clear HO1188; clear HB; have HO1188 := n0_; have HO1192 := n1_; have HB := n2_; clear n0_ n1_ n2_; (try clear hb); (try clear hb2); (try clear hk); (try clear hi); (try clear ho0)))
  (try simp only [Act.put, List.setIfInBounds_toArray, List.set_cons_zero, List.set_cons_succ])
  go_cut [33] (fun v33 wc => ∃ (kq : Nat) (x33_4 : Bool), v33 = .bool x33_4 ∧ Aside0 (laws_FnExactRegionOf.j0 kq a0 a1 t1185 t1186 t1189 x33_4 = some r) ∧ Aside0 (kq ≤ k) ∧ Aside0 (Kd.R k34 34 wc w.heap.size (fun k_ => some k_ ≠ (v1191 : Value).ownBlock) v1187 t1185) ∧ Aside0 (Kd.R k34 34 wc w.heap.size (fun k_ => some k_ ≠ (v1187 : Value).ownBlock) v1191 t1189) ∧ Aside0 (Below w.heap.size w wc))
  case first =>
    have H := HC5.out
    clear HC5
    replace H := Option.bind_eq_some_iff.mp H
    obtain ⟨t1193, A80, H⟩ := H
    replace H : (if t1193 = true then (laws_FnExactRegionOf.j0 k a0 a1 t1185 t1186 t1189 (t1190 != t1186)) else (laws_FnExactRegionOf.j0 k a0 a1 t1185 t1186 t1189 true)) = some r := H
    have A8 := Aside0.mk A80
    clear A80
    by_cases c9 : t1193 = true
    · subst c9
      have H1 : (laws_FnExactRegionOf.j0 k a0 a1 t1185 t1186 t1189 (t1190 != t1186)) = some r := by rw [if_pos rfl] at H; exact H
      clear H
      have H := H1
      clear H1
      have H' := Aside0.mk H
      clear H
      obtain ⟨Ao10, co10, eo10⟩ := Kd.R_slice HO1192.out
      subst eo10
      obtain ⟨Ao11, co11, eo11⟩ := Kd.R_slice HO1188.out
      subst eo11
      go_wp2_with (first | ((with_reducible refine gate_callee (f := 43) rfl ?_); refine goesL_ (some 27) rfl rfl Try.func43 (by kernel_rfl) rfl #[.slice Ao10 t1189.length co10, .slice Ao11 t1185.length co11] rfl (by (try simp only [List.map_toArray, List.map_cons, List.map_nil]); first | done | rfl | (simp only [List.length_drop, List.length_take]; rfl)) ?_; (with_reducible refine (laws_eqBallS.calls k _ _ t1189 _ _ t1185 true _ ?side1 ?side2 ?side3 ?side4 A8.out).mono ?_); (case side1 => repeat (first | exact (Kd.R_reads' HO1192.out).2.2 | (with_reducible refine Kd.C_alloc ?_ _) | (with_reducible refine Kd.C_drewN ?_ _) | (with_reducible refine Kd.C_drew ?_))); (case side2 => exact (Kd.R_reads' HO1192.out).2.1); (case side3 => repeat (first | exact (Kd.R_reads' HO1188.out).2.2 | (with_reducible refine Kd.C_alloc ?_ _) | (with_reducible refine Kd.C_drewN ?_ _) | (with_reducible refine Kd.C_drew ?_))); (case side4 => exact (Kd.R_reads' HO1188.out).2.1); rintro e w12 ⟨rfl, hb⟩; refine ⟨_, rfl, ?_⟩; have n0_ := Aside0.mk (Kd.R_below (by (with_reducible repeat (first | apply Kd.R_alloc | apply Kd.R_drewN | apply Kd.R_drew)); exact HO1188.out) hb); have n1_ := Aside0.mk (Kd.R_below (by (with_reducible repeat (first | apply Kd.R_alloc | apply Kd.R_drewN | apply Kd.R_drew)); exact HO1192.out) hb); have n2_ := Aside0.mk (below_step blA hb); clear HO1188; clear HO1192; clear HB; have HO1188 := n0_; have HO1192 := n1_; have HB := n2_; clear n0_ n1_ n2_; (try clear hb); (try clear hb2); (try clear hk); (try clear hi)))
      go_meet
      case rel => exact ⟨_, ((t1190 != t1186)), (by first | rfl | (simp; done) | (simp [*]; done)), H', ⟨by first | omega | exact Nat.le_refl _⟩, ⟨by (with_reducible repeat (first | apply Kd.R_alloc | apply Kd.R_drewN | apply Kd.R_drew)); exact Kd.R_mono HO1188.out (fun _ hk => hk.2)⟩, ⟨by (with_reducible repeat (first | apply Kd.R_alloc | apply Kd.R_drewN | apply Kd.R_drew)); exact Kd.R_mono HO1192.out (fun _ hk => hk.2)⟩, ⟨blA⟩⟩
    · replace c9 := Bool.eq_false_iff.mpr c9
      subst c9
      have H1 : (laws_FnExactRegionOf.j0 k a0 a1 t1185 t1186 t1189 true) = some r := by rw [if_neg (show ¬ (false = true) by decide)] at H; exact H
      clear H
      have H := H1
      clear H1
      have H' := Aside0.mk H
      clear H
      obtain ⟨Ao13, co13, eo13⟩ := Kd.R_slice HO1192.out
      subst eo13
      obtain ⟨Ao14, co14, eo14⟩ := Kd.R_slice HO1188.out
      subst eo14
      go_wp2_with (first | ((with_reducible refine gate_callee (f := 43) rfl ?_); refine goesL_ (some 27) rfl rfl Try.func43 (by kernel_rfl) rfl #[.slice Ao13 t1189.length co13, .slice Ao14 t1185.length co14] rfl (by (try simp only [List.map_toArray, List.map_cons, List.map_nil]); first | done | rfl | (simp only [List.length_drop, List.length_take]; rfl)) ?_; (with_reducible refine (laws_eqBallS.calls k _ _ t1189 _ _ t1185 false _ ?side1 ?side2 ?side3 ?side4 A8.out).mono ?_); (case side1 => repeat (first | exact (Kd.R_reads' HO1192.out).2.2 | (with_reducible refine Kd.C_alloc ?_ _) | (with_reducible refine Kd.C_drewN ?_ _) | (with_reducible refine Kd.C_drew ?_))); (case side2 => exact (Kd.R_reads' HO1192.out).2.1); (case side3 => repeat (first | exact (Kd.R_reads' HO1188.out).2.2 | (with_reducible refine Kd.C_alloc ?_ _) | (with_reducible refine Kd.C_drewN ?_ _) | (with_reducible refine Kd.C_drew ?_))); (case side4 => exact (Kd.R_reads' HO1188.out).2.1); rintro e w15 ⟨rfl, hb⟩; refine ⟨_, rfl, ?_⟩; have n0_ := Aside0.mk (Kd.R_below (by (with_reducible repeat (first | apply Kd.R_alloc | apply Kd.R_drewN | apply Kd.R_drew)); exact HO1188.out) hb); have n1_ := Aside0.mk (Kd.R_below (by (with_reducible repeat (first | apply Kd.R_alloc | apply Kd.R_drewN | apply Kd.R_drew)); exact HO1192.out) hb); have n2_ := Aside0.mk (below_step blA hb); clear HO1188; clear HO1192; clear HB; have HO1188 := n0_; have HO1192 := n1_; have HB := n2_; clear n0_ n1_ n2_; (try clear hb); (try clear hb2); (try clear hk); (try clear hi)))
      go_meet
      case rel => exact ⟨_, (true), (by first | rfl | (simp; done) | (simp [*]; done)), H', ⟨by first | omega | exact Nat.le_refl _⟩, ⟨by (with_reducible repeat (first | apply Kd.R_alloc | apply Kd.R_drewN | apply Kd.R_drew)); exact Kd.R_mono HO1188.out (fun _ hk => hk.2)⟩, ⟨by (with_reducible repeat (first | apply Kd.R_alloc | apply Kd.R_drewN | apply Kd.R_drew)); exact Kd.R_mono HO1192.out (fun _ hk => hk.2)⟩, ⟨blA⟩⟩
  case rest =>
    clear HC5
    try clear c1
    try clear p2
    try clear c4
    try clear c9
    try clear c11
    obtain ⟨kq, x33_4, rfl, HA, HJ4, HO_5, HO_7, HB⟩ := hcut
    cases kq with
    | zero => exact absurd HA.out (by simp [laws_FnExactRegionOf.j0])
    | succ kj4 =>
      have H := HA.out
      clear HA
      simp only [laws_FnExactRegionOf.j0] at H
      by_cases c16 : x33_4 = true
      · subst c16
        have H1 : (none) = some r := by rw [if_pos rfl] at H; exact H
        clear H
        have H := H1
        clear H1
        exact absurd H (by simp)
      · replace c16 := Bool.eq_false_iff.mpr c16
        subst c16
        have H1 : ((laws_markBallS.f kj4 t1189 1).bind fun bt1194 => ((laws_heldBallS.f kj4 bt1194.2 1).bind fun t1196 => (if t1196 < 0 then (none) else (if t1196 = bt1194.1 then ((impl_RegionOf.f kj4 a0 a1).bind fun bt1197 => ((laws_eqBallS.f kj4 bt1197.1 t1185).bind fun t1201 => (if t1201 = true then (laws_FnExactRegionOf.j1 kj4 bt1194.2 bt1194.1 (bt1197.2 != t1186)) else (laws_FnExactRegionOf.j1 kj4 bt1194.2 bt1194.1 true)))) else (none))))) = some r := by rw [if_neg (show ¬ (false = true) by decide)] at H; exact H
        clear H
        have H := H1
        clear H1
        replace H := Option.bind_eq_some_iff.mp H
        obtain ⟨⟨t1194, t1195⟩, A170, H⟩ := H
        replace H : ((laws_heldBallS.f kj4 t1195 1).bind fun t1196 => (if t1196 < 0 then (none) else (if t1196 = t1194 then ((impl_RegionOf.f kj4 a0 a1).bind fun bt1197 => ((laws_eqBallS.f kj4 bt1197.1 t1185).bind fun t1201 => (if t1201 = true then (laws_FnExactRegionOf.j1 kj4 t1195 t1194 (bt1197.2 != t1186)) else (laws_FnExactRegionOf.j1 kj4 t1195 t1194 true)))) else (none)))) = some r := H
        have A17 := Aside0.mk A170
        clear A170
        replace H := Option.bind_eq_some_iff.mp H
        obtain ⟨t1196, A180, H⟩ := H
        replace H : (if t1196 < 0 then (none) else (if t1196 = t1194 then ((impl_RegionOf.f kj4 a0 a1).bind fun bt1197 => ((laws_eqBallS.f kj4 bt1197.1 t1185).bind fun t1201 => (if t1201 = true then (laws_FnExactRegionOf.j1 kj4 t1195 t1194 (bt1197.2 != t1186)) else (laws_FnExactRegionOf.j1 kj4 t1195 t1194 true)))) else (none))) = some r := H
        have A18 := Aside0.mk A180
        clear A180
        by_cases c19 : t1196 < 0
        · rw [if_pos c19] at H
          exact absurd H (by simp)
        · rw [if_neg c19] at H
          have c19b0 : decide (t1196 < 0) = false := decide_eq_false c19
          clear c19
          by_cases c20 : t1196 = t1194
          · rw [if_pos c20] at H
            have c20b0 : (t1196 == t1194) = true := beq_iff_eq.mpr c20
            have c20b1 : (t1196 != t1194) = false := bne_eq_false_iff_eq.mpr c20
            clear c20
            replace H := Option.bind_eq_some_iff.mp H
            obtain ⟨⟨t1197, t1198⟩, A210, H⟩ := H
            replace H : ((laws_eqBallS.f kj4 t1197 t1185).bind fun t1201 => (if t1201 = true then (laws_FnExactRegionOf.j1 kj4 t1195 t1194 (t1198 != t1186)) else (laws_FnExactRegionOf.j1 kj4 t1195 t1194 true))) = some r := H
            have A21 := Aside0.mk A210
            clear A210
            have HC22 := Aside0.mk H
            clear H
            obtain ⟨Ao23, co23, eo23⟩ := Kd.R_slice HO_7.out
            subst eo23
            go_upto_region 14 with (first | ((with_reducible refine gate_callee (f := 44) rfl ?_); refine goesL_ (some 36) rfl rfl Try.func44 (by kernel_rfl) rfl #[.slice Ao23 t1189.length co23, .int .i64 1] rfl (by (try simp only [List.map_toArray, List.map_cons, List.map_nil]); first | done | rfl | (simp only [List.length_drop, List.length_take]; rfl)) ?_; (with_reducible refine (laws_markBallS.calls kj4 (fun k_ => some k_ = (.slice Ao23 t1189.length co23 : Value).ownBlock) (.slice Ao23 t1189.length co23) t1189 1 t1194 t1195 w _ ?side1 ?side2 A17.out).mono ?_); (case side1 => repeat (first | (with_reducible first | exact HB.out | apply below_alloc | apply pw_below_drewN | apply below_drew1) | exact HB.out)); (case side2 => exact Kd.R_tight rfl HO_7.out); rintro e w24 ⟨rfl, hy0, hb, hkp⟩; refine ⟨_, rfl, ?_⟩; have n0_ := Aside0.mk (Kd.R_mono (ok' := fun k_ => some k_ ≠ (.slice Ao23 t1189.length co23 : Value).ownBlock) (Kd.R_keptB (HO_5.out) hkp (fun k_ hk_ hs_ => (hk_) hs_)) (fun k_ hk_ => hk_.1)); have n1_ := Aside0.mk (Kd.R_reok rfl hy0 (fun k_ e_ => HO_7.out.1 k_ e_)); have n2_ := Aside0.mk (hb); clear HO_5; clear HO_7; clear HB; have HO_5 := n0_; have HO_7 := n1_; have HB := n2_; clear n0_ n1_ n2_; (try clear hb); (try clear hkp); (try clear hy0)) | ((with_reducible refine gate_callee (f := 45) rfl ?_); refine goesL_ (some 39) rfl rfl Try.func45 (by kernel_rfl) rfl #[.slice Ao23 t1195.length co23, .int .i64 1] rfl (by (try simp only [List.map_toArray, List.map_cons, List.map_nil]); first | done | (rw [show t1195.length = t1189.length from (Kd.R_reads' HO_7.out).1.symm] <;> rfl) | rfl | (simp only [List.length_drop, List.length_take]; rfl)) ?_; (with_reducible refine (laws_heldBallS.calls kj4 _ _ t1195 1 t1196 _ ?side1 ?side2 A18.out).mono ?_); (case side1 => repeat (first | exact (Kd.R_reads' HO_7.out).2.2 | (with_reducible refine Kd.C_alloc ?_ _) | (with_reducible refine Kd.C_drewN ?_ _) | (with_reducible refine Kd.C_drew ?_))); (case side2 => rw [show t1195.length = t1189.length from (Kd.R_reads' HO_7.out).1.symm]; exact (Kd.R_reads' HO_7.out).2.1); rintro e w' ⟨rfl, ⟨nd, rfl⟩⟩; refine ⟨_, rfl, ?_⟩) | ((with_reducible refine gate_callee (f := 42) rfl ?_); refine goesL_ (some 48) rfl rfl Try.func42 (by kernel_rfl) rfl #[.int .i64 a0, .int .i64 a1] rfl (by (try simp only [List.map_toArray, List.map_cons, List.map_nil]); first | done | rfl | (simp only [List.length_drop, List.length_take]; rfl)) ?_; (with_reducible refine (impl_RegionOf.calls kj4 a0 a1 t1197 t1198 _ A21.out).mono ?_); rintro e w25 ⟨v1199, rfl, ho0, hb⟩; refine ⟨_, rfl, ?_⟩; have n0_ := Aside0.mk (Kd.R_elder' (by (with_reducible repeat (first | apply Kd.R_alloc | apply Kd.R_drewN | apply Kd.R_drew)); exact HO_5.out) (Kd.R_base ho0) hb); have n1_ := Aside0.mk (Kd.R_elder' (by (with_reducible repeat (first | apply Kd.R_alloc | apply Kd.R_drewN | apply Kd.R_drew)); exact HO_7.out) (Kd.R_base ho0) hb); have n2_ := Aside0.mk (Kd.R_lower (Kd.R_new' (Kd.R_new' ho0 (Kd.R_lt (by (with_reducible repeat (first | apply Kd.R_alloc | apply Kd.R_drewN | apply Kd.R_drew)); exact HO_5.out))) (Kd.R_lt (by (with_reducible repeat (first | apply Kd.R_alloc | apply Kd.R_drewN | apply Kd.R_drew)); exact HO_7.out))) (below_size blA)); have n3_ := Aside0.mk (below_step blA hb); clear HO_5; clear HO_7; clear HB; have HO_5 := n0_; have HO_7 := n1_; have HO1200 := n2_; have HB := n3_; clear n0_ n1_ n2_ n3_; (try clear hb); (try clear hb2); (try clear hk); (try clear hi); (try clear ho0)))
            (try simp only [Act.put, List.setIfInBounds_toArray, List.set_cons_zero, List.set_cons_succ])
            go_cut [59] (fun v59 wc => ∃ (kq : Nat) (x59_21 : Bool), v59 = .bool x59_21 ∧ Aside0 (laws_FnExactRegionOf.j1 kq t1195 t1194 x59_21 = some r) ∧ Aside0 (kq ≤ kj4) ∧ Aside0 (Kd.R k34 34 wc w.heap.size (fun _ => True) (.slice Ao23 t1189.length co23) t1195) ∧ Aside0 (Below w.heap.size w wc))
            case first =>
              have H := HC22.out
              clear HC22
              replace H := Option.bind_eq_some_iff.mp H
              obtain ⟨t1201, A260, H⟩ := H
              replace H : (if t1201 = true then (laws_FnExactRegionOf.j1 kj4 t1195 t1194 (t1198 != t1186)) else (laws_FnExactRegionOf.j1 kj4 t1195 t1194 true)) = some r := H
              have A26 := Aside0.mk A260
              clear A260
              by_cases c27 : t1201 = true
              · subst c27
                have H1 : (laws_FnExactRegionOf.j1 kj4 t1195 t1194 (t1198 != t1186)) = some r := by rw [if_pos rfl] at H; exact H
                clear H
                have H := H1
                clear H1
                have H' := Aside0.mk H
                clear H
                obtain ⟨Ao28, co28, eo28⟩ := Kd.R_slice HO1200.out
                subst eo28
                obtain ⟨Ao29, co29, eo29⟩ := Kd.R_slice HO_5.out
                subst eo29
                go_wp2_with (first | ((with_reducible refine gate_callee (f := 43) rfl ?_); refine goesL_ (some 53) rfl rfl Try.func43 (by kernel_rfl) rfl #[.slice Ao28 t1197.length co28, .slice Ao29 t1185.length co29] rfl (by (try simp only [List.map_toArray, List.map_cons, List.map_nil]); first | done | rfl | (simp only [List.length_drop, List.length_take]; rfl)) ?_; (with_reducible refine (laws_eqBallS.calls kj4 _ _ t1197 _ _ t1185 true _ ?side1 ?side2 ?side3 ?side4 A26.out).mono ?_); (case side1 => repeat (first | exact (Kd.R_reads' HO1200.out).2.2 | (with_reducible refine Kd.C_alloc ?_ _) | (with_reducible refine Kd.C_drewN ?_ _) | (with_reducible refine Kd.C_drew ?_))); (case side2 => exact (Kd.R_reads' HO1200.out).2.1); (case side3 => repeat (first | exact (Kd.R_reads' HO_5.out).2.2 | (with_reducible refine Kd.C_alloc ?_ _) | (with_reducible refine Kd.C_drewN ?_ _) | (with_reducible refine Kd.C_drew ?_))); (case side4 => exact (Kd.R_reads' HO_5.out).2.1); rintro e w30 ⟨rfl, hb⟩; refine ⟨_, rfl, ?_⟩; have n0_ := Aside0.mk (Kd.R_below (by (with_reducible repeat (first | apply Kd.R_alloc | apply Kd.R_drewN | apply Kd.R_drew)); exact HO_5.out) hb); have n1_ := Aside0.mk (Kd.R_below (by (with_reducible repeat (first | apply Kd.R_alloc | apply Kd.R_drewN | apply Kd.R_drew)); exact HO_7.out) hb); have n2_ := Aside0.mk (Kd.R_below (by (with_reducible repeat (first | apply Kd.R_alloc | apply Kd.R_drewN | apply Kd.R_drew)); exact HO1200.out) hb); have n3_ := Aside0.mk (below_step blA hb); clear HO_5; clear HO_7; clear HO1200; clear HB; have HO_5 := n0_; have HO_7 := n1_; have HO1200 := n2_; have HB := n3_; clear n0_ n1_ n2_ n3_; (try clear hb); (try clear hb2); (try clear hk); (try clear hi)))
                go_meet
                case rel => exact ⟨_, ((t1198 != t1186)), (by first | rfl | (simp; done) | (simp [*]; done)), H', ⟨by have := HJ4.out; first | omega | exact Nat.le_refl _⟩, ⟨by (with_reducible repeat (first | apply Kd.R_alloc | apply Kd.R_drewN | apply Kd.R_drew)); exact Kd.R_mono HO_7.out (fun _ hk => trivial)⟩, ⟨blA⟩⟩
              · replace c27 := Bool.eq_false_iff.mpr c27
                subst c27
                have H1 : (laws_FnExactRegionOf.j1 kj4 t1195 t1194 true) = some r := by rw [if_neg (show ¬ (false = true) by decide)] at H; exact H
                clear H
                have H := H1
                clear H1
                have H' := Aside0.mk H
                clear H
                obtain ⟨Ao31, co31, eo31⟩ := Kd.R_slice HO1200.out
                subst eo31
                obtain ⟨Ao32, co32, eo32⟩ := Kd.R_slice HO_5.out
                subst eo32
                go_wp2_with (first | ((with_reducible refine gate_callee (f := 43) rfl ?_); refine goesL_ (some 53) rfl rfl Try.func43 (by kernel_rfl) rfl #[.slice Ao31 t1197.length co31, .slice Ao32 t1185.length co32] rfl (by (try simp only [List.map_toArray, List.map_cons, List.map_nil]); first | done | rfl | (simp only [List.length_drop, List.length_take]; rfl)) ?_; (with_reducible refine (laws_eqBallS.calls kj4 _ _ t1197 _ _ t1185 false _ ?side1 ?side2 ?side3 ?side4 A26.out).mono ?_); (case side1 => repeat (first | exact (Kd.R_reads' HO1200.out).2.2 | (with_reducible refine Kd.C_alloc ?_ _) | (with_reducible refine Kd.C_drewN ?_ _) | (with_reducible refine Kd.C_drew ?_))); (case side2 => exact (Kd.R_reads' HO1200.out).2.1); (case side3 => repeat (first | exact (Kd.R_reads' HO_5.out).2.2 | (with_reducible refine Kd.C_alloc ?_ _) | (with_reducible refine Kd.C_drewN ?_ _) | (with_reducible refine Kd.C_drew ?_))); (case side4 => exact (Kd.R_reads' HO_5.out).2.1); rintro e w33 ⟨rfl, hb⟩; refine ⟨_, rfl, ?_⟩; have n0_ := Aside0.mk (Kd.R_below (by (with_reducible repeat (first | apply Kd.R_alloc | apply Kd.R_drewN | apply Kd.R_drew)); exact HO_5.out) hb); have n1_ := Aside0.mk (Kd.R_below (by (with_reducible repeat (first | apply Kd.R_alloc | apply Kd.R_drewN | apply Kd.R_drew)); exact HO_7.out) hb); have n2_ := Aside0.mk (Kd.R_below (by (with_reducible repeat (first | apply Kd.R_alloc | apply Kd.R_drewN | apply Kd.R_drew)); exact HO1200.out) hb); have n3_ := Aside0.mk (below_step blA hb); clear HO_5; clear HO_7; clear HO1200; clear HB; have HO_5 := n0_; have HO_7 := n1_; have HO1200 := n2_; have HB := n3_; clear n0_ n1_ n2_ n3_; (try clear hb); (try clear hb2); (try clear hk); (try clear hi)))
                go_meet
                case rel => exact ⟨_, (true), (by first | rfl | (simp; done) | (simp [*]; done)), H', ⟨by have := HJ4.out; first | omega | exact Nat.le_refl _⟩, ⟨by (with_reducible repeat (first | apply Kd.R_alloc | apply Kd.R_drewN | apply Kd.R_drew)); exact Kd.R_mono HO_7.out (fun _ hk => trivial)⟩, ⟨blA⟩⟩
            case rest =>
              clear HC22
              try clear c1
              try clear c2
              try clear p2
              try clear c4
              try clear c9
              try clear c11
              try clear c16
              try clear c19
              try clear c19b0
              try clear c20
              try clear c20b0
              try clear c20b1
              try clear c27
              try clear p2
              obtain ⟨kq, x59_21, rfl, HA, HJ21, HO_7, HB⟩ := hcut
              have hl7_21 := (Kd.R_reads' HO_7.out).1
              rw [hl7_21] at HO_7
              (try simp only [hl7_21])
              cases kq with
              | zero => exact absurd HA.out (by simp [laws_FnExactRegionOf.j1])
              | succ kj21 =>
                have H := HA.out
                clear HA
                simp only [laws_FnExactRegionOf.j1] at H
                by_cases c34 : x59_21 = true
                · subst c34
                  have H1 : (none) = some r := by rw [if_pos rfl] at H; exact H
                  clear H
                  have H := H1
                  clear H1
                  exact absurd H (by simp)
                · replace c34 := Bool.eq_false_iff.mpr c34
                  subst c34
                  have H1 : ((laws_heldBallS.f kj21 t1195 1).bind fun t1202 => (if t1202 < 0 then (none) else (if t1202 = t1194 then (some true) else (none)))) = some r := by rw [if_neg (show ¬ (false = true) by decide)] at H; exact H
                  clear H
                  have H := H1
                  clear H1
                  replace H := Option.bind_eq_some_iff.mp H
                  obtain ⟨t1202, A350, H⟩ := H
                  replace H : (if t1202 < 0 then (none) else (if t1202 = t1194 then (some true) else (none))) = some r := H
                  have A35 := Aside0.mk A350
                  clear A350
                  by_cases c36 : t1202 < 0
                  · rw [if_pos c36] at H
                    exact absurd H (by simp)
                  · rw [if_neg c36] at H
                    have c36b0 : decide (t1202 < 0) = false := decide_eq_false c36
                    clear c36
                    by_cases c37 : t1202 = t1194
                    · rw [if_pos c37] at H
                      have c37b0 : (t1202 == t1194) = true := beq_iff_eq.mpr c37
                      have c37b1 : (t1202 != t1194) = false := bne_eq_false_iff_eq.mpr c37
                      clear c37
                      obtain rfl := Option.some.inj H
                      go_wp2_with (first | ((with_reducible refine gate_callee (f := 45) rfl ?_); refine goesL_ (some 62) rfl rfl Try.func45 (by kernel_rfl) rfl #[.slice Ao23 t1195.length co23, .int .i64 1] rfl (by (try simp only [List.map_toArray, List.map_cons, List.map_nil]); first | done | rfl | (simp only [List.length_drop, List.length_take]; rfl)) ?_; (with_reducible refine (laws_heldBallS.calls kj21 _ _ t1195 1 t1202 _ ?side1 ?side2 A35.out).mono ?_); (case side1 => repeat (first | exact (Kd.R_reads' HO_7.out).2.2 | (with_reducible refine Kd.C_alloc ?_ _) | (with_reducible refine Kd.C_drewN ?_ _) | (with_reducible refine Kd.C_drew ?_))); (case side2 => exact (Kd.R_reads' HO_7.out).2.1); rintro e w' ⟨rfl, ⟨nd, rfl⟩⟩; refine ⟨_, rfl, ?_⟩))
                      go_ret
                      exact ⟨by first | rfl | (simp [errW_none, errW_some] <;> rfl) | (simp [*, errW_none, errW_some] <;> rfl), blA⟩
                    · rw [if_neg c37] at H
                      exact absurd H (by simp)
          · rw [if_neg c20] at H
            exact absurd H (by simp)

/-- THE ONE PURE STATEMENT of laws_FnExactRegionOf: yours. -/
def laws_FnExactRegionOf.Pure : Prop := ∀ (a0 : Int) (a1 : Int), (Lit.int .i64 a0).wf = true → (Lit.int .i64 a1).wf = true → ∃ k, laws_FnExactRegionOf.f k a0 a1 = some true
theorem laws_FnExactRegionOf.walk (P : laws_FnExactRegionOf.Pure) (a0 : Int) (a1 : Int) (w : World) (w0 : (Lit.int .i64 a0).wf = true) (w1 : (Lit.int .i64 a1).wf = true) :
    Calls Try.prog 11 #[.int .i64 a0, .int .i64 a1] w fun e w' => e = .returned (.bool true) ∧ Below w.heap.size w w' := by
  obtain ⟨k, h⟩ := P a0 a1 w0 w1
  refine (laws_FnExactRegionOf.calls k a0 a1 true w h).mono ?_
  rintro e w' ⟨rfl, hd⟩
  exact ⟨rfl, hd⟩
end Go.Proofs.Ytfkglijnbgijbaa.PAll
