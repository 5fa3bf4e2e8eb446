-- turned for this claim out of the kit's print: the same functions, packed anew
import Derived.Test.YtfkglijnbgijbaaQx
import Derived.Test.YtfkglijnbgijbaaQimpldistance
import Derived.Test.YtfkglijnbgijbaaQimplsomeNeighbours
import Derived.Test.YtfkglijnbgijbaaQspecl01Code
namespace Go.Proofs.Ytfkglijnbgijbaa.PAll
open Go.RowKit Go.Proofs.YtfkglijnbgijbaaW.PrintWords Go.Proofs.YtfkglijnbgijbaaW.PrintLast Go.Proofs.YtfkglijnbgijbaaW.PrintMore
attribute [local go_sem] Go.Proofs.Ytfkglijnbgijbaa.Aux.setCell_drewN Go.Proofs.Ytfkglijnbgijbaa.Aux.isSome_setCell Go.Proofs.Ytfkglijnbgijbaa.Aux.max_eight max2_int min2_int max_two min_two max_three min_three max_four min_four   -- for this text's walks alone
set_option linter.unusedVariables false
set_option linter.unusedSimpArgs false
/-! ### spec_SphereAround: function 141 -/
mutual
def spec_SphereAround.j0 : Nat → Int → Int → Int → Bool → Int → Int → Int → Option ((List (S34)) × Int)
  | 0, _, _, _, _, _, _, _ => none
  | k + 1, x0, x2, x8, x26, x1081000, x1081001, x1081002 => if x26 = true then (spec_SphereAround.j1 k x0 x2 2 x1081000 x1081001 x1081002) else (spec_SphereAround.j1 k x0 x2 x8 x1081000 x1081001 x1081002)
def spec_SphereAround.j1 : Nat → Int → Int → Int → Int → Int → Int → Option ((List (S34)) × Int)
  | 0, _, _, _, _, _, _ => none
  | k + 1, x0, x2, x8, x1081000, x1081001, x1081002 => if x8 = 0 then (spec_SphereAround.l0 k x0 x2 (([(⟨x1081000, x1081001, x1081002⟩ : S34)] : List (S34))) 1 x1081000 x1081001 x1081002) else (some (([] : List (S34)), x8))
def spec_SphereAround.l0 : Nat → Int → Int → List (S34) → Int → Int → Int → Int → Option ((List (S34)) × Int)
  | 0, _, _, _, _, _, _, _ => none
  | k + 1, x0, x2, x9, x10, x1081000, x1081001, x1081002 => if x10 ≤ x2 then (spec_SphereAround.l1 k x0 x2 x9 x10 (([] : List (S34))) 0 x1081000 x1081001 x1081002) else (some (x9, 0))
def spec_SphereAround.l1 : Nat → Int → Int → List (S34) → Int → List (S34) → Int → Int → Int → Int → Option ((List (S34)) × Int)
  | 0, _, _, _, _, _, _, _, _, _ => none
  | k + 1, x0, x2, x9, x10, x11, x12, x1081000, x1081001, x1081002 => if x12 < (x9.length : Int) then (if 0 ≤ x12 then ((spec_l02Near.f k x0 ((rd_T34 x9 x12).f0) ((rd_T34 x9 x12).f1) ((rd_T34 x9 x12).f2)).bind fun bt1093 => (if bt1093.2 = true then (spec_SphereAround.l2 k x0 x2 x9 x10 x11 x12 bt1093.1 0 x1081000 x1081001 x1081002) else (some (([] : List (S34)), 3)))) else (none)) else (spec_SphereAround.l0 k x0 x2 x11 (wrap64 (x10 + 1)) x1081000 x1081001 x1081002)
def spec_SphereAround.l2 : Nat → Int → Int → List (S34) → Int → List (S34) → Int → List (S34) → Int → Int → Int → Int → Option ((List (S34)) × Int)
  | 0, _, _, _, _, _, _, _, _, _, _, _ => none
  | k + 1, x0, x2, x9, x10, x11, x12, x13, x15, x1081000, x1081001, x1081002 => if x15 < (x13.length : Int) then (if 0 ≤ x15 then ((spec_l02Distance.f k x0 x1081000 x1081001 x1081002 ((rd_T34 x13 x15).f0) ((rd_T34 x13 x15).f1) ((rd_T34 x13 x15).f2)).bind fun t1098 => (if t1098 = x10 then (if x11.length < 5864062014805 then (spec_SphereAround.l2 k x0 x2 x9 x10 (x11 ++ [(⟨(rd_T34 x13 x15).f0, (rd_T34 x13 x15).f1, (rd_T34 x13 x15).f2⟩ : S34)]) x12 x13 (wrap64 (x15 + 1)) x1081000 x1081001 x1081002) else (none)) else (spec_SphereAround.l2 k x0 x2 x9 x10 x11 x12 x13 (wrap64 (x15 + 1)) x1081000 x1081001 x1081002))) else (none)) else (spec_SphereAround.l1 k x0 x2 x9 x10 x11 (wrap64 (x12 + 1)) x1081000 x1081001 x1081002)
end
def spec_SphereAround.f (k : Nat) (a0 : Int) (a1_0 : Int) (a1_1 : Int) (a1_2 : Int) (a2 : Int) : Option ((List (S34)) × Int) := (spec_l01Code.f k a0 (([(⟨a1_0, a1_1, a1_2⟩ : S34)] : List (S34)))).bind fun t1084 => (if t1084 = 0 then ((spec_l01In.f a2 0 4).bind fun t1085 => (spec_SphereAround.j0 k a0 a2 t1084 (!t1085) a1_0 a1_1 a1_2)) else (spec_SphereAround.j0 k a0 a2 t1084 false a1_0 a1_1 a1_2))
theorem spec_SphereAround.mono_l : ∀ k, (∀ y0 y1 y2 y3 y4 y5 y6, LeO (spec_SphereAround.j0 k y0 y1 y2 y3 y4 y5 y6) (spec_SphereAround.j0 (k + 1) y0 y1 y2 y3 y4 y5 y6)) ∧ (∀ y0 y1 y2 y3 y4 y5, LeO (spec_SphereAround.j1 k y0 y1 y2 y3 y4 y5) (spec_SphereAround.j1 (k + 1) y0 y1 y2 y3 y4 y5)) ∧ (∀ y0 y1 y2 y3 y4 y5 y6, LeO (spec_SphereAround.l0 k y0 y1 y2 y3 y4 y5 y6) (spec_SphereAround.l0 (k + 1) y0 y1 y2 y3 y4 y5 y6)) ∧ (∀ y0 y1 y2 y3 y4 y5 y6 y7 y8, LeO (spec_SphereAround.l1 k y0 y1 y2 y3 y4 y5 y6 y7 y8) (spec_SphereAround.l1 (k + 1) y0 y1 y2 y3 y4 y5 y6 y7 y8)) ∧ (∀ y0 y1 y2 y3 y4 y5 y6 y7 y8 y9 y10, LeO (spec_SphereAround.l2 k y0 y1 y2 y3 y4 y5 y6 y7 y8 y9 y10) (spec_SphereAround.l2 (k + 1) y0 y1 y2 y3 y4 y5 y6 y7 y8 y9 y10))
  | 0 => ⟨fun _ _ _ _ _ _ _ r h => by simp [spec_SphereAround.j0] at h, fun _ _ _ _ _ _ r h => by simp [spec_SphereAround.j1] at h, fun _ _ _ _ _ _ _ r h => by simp [spec_SphereAround.l0] at h, fun _ _ _ _ _ _ _ _ _ r h => by simp [spec_SphereAround.l1] at h, fun _ _ _ _ _ _ _ _ _ _ _ r h => by simp [spec_SphereAround.l2] at h⟩
  | k + 1 => by
    obtain ⟨ih0, ih1, ih2, ih3, ih4⟩ := spec_SphereAround.mono_l k
    refine ⟨?_, ?_, ?_, ?_, ?_⟩
    · intro y0 y1 y2 y3 y4 y5 y6
      unfold spec_SphereAround.j0
      repeat' first
      | (with_reducible exact ih0 _ _ _ _ _ _ _)
      | (with_reducible exact ih1 _ _ _ _ _ _)
      | (with_reducible exact ih2 _ _ _ _ _ _ _)
      | (with_reducible exact ih3 _ _ _ _ _ _ _ _ _)
      | (with_reducible exact ih4 _ _ _ _ _ _ _ _ _ _ _)
      | (with_reducible exact spec_l01Code.mono _ _ _)
      | (with_reducible exact spec_l02Distance.mono _ _ _ _ _ _ _ _)
      | (with_reducible exact spec_l02Near.mono _ _ _ _ _)
      | (with_reducible exact LeO.refl _)
      | (with_reducible exact LeO.none _)
      | (with_reducible refine LeO.ite ?_ ?_)
      | (with_reducible refine LeO.bind ?_ (fun _ => ?_))
      | exact ih0 _ _ _ _ _ _ _
      | exact ih1 _ _ _ _ _ _
      | exact ih2 _ _ _ _ _ _ _
      | exact ih3 _ _ _ _ _ _ _ _ _
      | exact ih4 _ _ _ _ _ _ _ _ _ _ _
      | exact spec_l01Code.mono _ _ _
      | exact spec_l02Distance.mono _ _ _ _ _ _ _ _
      | exact spec_l02Near.mono _ _ _ _ _
      | exact LeO.none _
      | refine LeO.ite ?_ ?_
      | refine LeO.bind ?_ (fun _ => ?_)
    · intro y0 y1 y2 y3 y4 y5
      unfold spec_SphereAround.j1
      repeat' first
      | (with_reducible exact ih0 _ _ _ _ _ _ _)
      | (with_reducible exact ih1 _ _ _ _ _ _)
      | (with_reducible exact ih2 _ _ _ _ _ _ _)
      | (with_reducible exact ih3 _ _ _ _ _ _ _ _ _)
      | (with_reducible exact ih4 _ _ _ _ _ _ _ _ _ _ _)
      | (with_reducible exact spec_l01Code.mono _ _ _)
      | (with_reducible exact spec_l02Distance.mono _ _ _ _ _ _ _ _)
      | (with_reducible exact spec_l02Near.mono _ _ _ _ _)
      | (with_reducible exact LeO.refl _)
      | (with_reducible exact LeO.none _)
      | (with_reducible refine LeO.ite ?_ ?_)
      | (with_reducible refine LeO.bind ?_ (fun _ => ?_))
      | exact ih0 _ _ _ _ _ _ _
      | exact ih1 _ _ _ _ _ _
      | exact ih2 _ _ _ _ _ _ _
      | exact ih3 _ _ _ _ _ _ _ _ _
      | exact ih4 _ _ _ _ _ _ _ _ _ _ _
      | exact spec_l01Code.mono _ _ _
      | exact spec_l02Distance.mono _ _ _ _ _ _ _ _
      | exact spec_l02Near.mono _ _ _ _ _
      | exact LeO.none _
      | refine LeO.ite ?_ ?_
      | refine LeO.bind ?_ (fun _ => ?_)
    · intro y0 y1 y2 y3 y4 y5 y6
      unfold spec_SphereAround.l0
      repeat' first
      | (with_reducible exact ih0 _ _ _ _ _ _ _)
      | (with_reducible exact ih1 _ _ _ _ _ _)
      | (with_reducible exact ih2 _ _ _ _ _ _ _)
      | (with_reducible exact ih3 _ _ _ _ _ _ _ _ _)
      | (with_reducible exact ih4 _ _ _ _ _ _ _ _ _ _ _)
      | (with_reducible exact spec_l01Code.mono _ _ _)
      | (with_reducible exact spec_l02Distance.mono _ _ _ _ _ _ _ _)
      | (with_reducible exact spec_l02Near.mono _ _ _ _ _)
      | (with_reducible exact LeO.refl _)
      | (with_reducible exact LeO.none _)
      | (with_reducible refine LeO.ite ?_ ?_)
      | (with_reducible refine LeO.bind ?_ (fun _ => ?_))
      | exact ih0 _ _ _ _ _ _ _
      | exact ih1 _ _ _ _ _ _
      | exact ih2 _ _ _ _ _ _ _
      | exact ih3 _ _ _ _ _ _ _ _ _
      | exact ih4 _ _ _ _ _ _ _ _ _ _ _
      | exact spec_l01Code.mono _ _ _
      | exact spec_l02Distance.mono _ _ _ _ _ _ _ _
      | exact spec_l02Near.mono _ _ _ _ _
      | exact LeO.none _
      | refine LeO.ite ?_ ?_
      | refine LeO.bind ?_ (fun _ => ?_)
    · intro y0 y1 y2 y3 y4 y5 y6 y7 y8
      unfold spec_SphereAround.l1
      repeat' first
      | (with_reducible exact ih0 _ _ _ _ _ _ _)
      | (with_reducible exact ih1 _ _ _ _ _ _)
      | (with_reducible exact ih2 _ _ _ _ _ _ _)
      | (with_reducible exact ih3 _ _ _ _ _ _ _ _ _)
      | (with_reducible exact ih4 _ _ _ _ _ _ _ _ _ _ _)
      | (with_reducible exact spec_l01Code.mono _ _ _)
      | (with_reducible exact spec_l02Distance.mono _ _ _ _ _ _ _ _)
      | (with_reducible exact spec_l02Near.mono _ _ _ _ _)
      | (with_reducible exact LeO.refl _)
      | (with_reducible exact LeO.none _)
      | (with_reducible refine LeO.ite ?_ ?_)
      | (with_reducible refine LeO.bind ?_ (fun _ => ?_))
      | exact ih0 _ _ _ _ _ _ _
      | exact ih1 _ _ _ _ _ _
      | exact ih2 _ _ _ _ _ _ _
      | exact ih3 _ _ _ _ _ _ _ _ _
      | exact ih4 _ _ _ _ _ _ _ _ _ _ _
      | exact spec_l01Code.mono _ _ _
      | exact spec_l02Distance.mono _ _ _ _ _ _ _ _
      | exact spec_l02Near.mono _ _ _ _ _
      | exact LeO.none _
      | refine LeO.ite ?_ ?_
      | refine LeO.bind ?_ (fun _ => ?_)
    · intro y0 y1 y2 y3 y4 y5 y6 y7 y8 y9 y10
      unfold spec_SphereAround.l2
      repeat' first
      | (with_reducible exact ih0 _ _ _ _ _ _ _)
      | (with_reducible exact ih1 _ _ _ _ _ _)
      | (with_reducible exact ih2 _ _ _ _ _ _ _)
      | (with_reducible exact ih3 _ _ _ _ _ _ _ _ _)
      | (with_reducible exact ih4 _ _ _ _ _ _ _ _ _ _ _)
      | (with_reducible exact spec_l01Code.mono _ _ _)
      | (with_reducible exact spec_l02Distance.mono _ _ _ _ _ _ _ _)
      | (with_reducible exact spec_l02Near.mono _ _ _ _ _)
      | (with_reducible exact LeO.refl _)
      | (with_reducible exact LeO.none _)
      | (with_reducible refine LeO.ite ?_ ?_)
      | (with_reducible refine LeO.bind ?_ (fun _ => ?_))
      | exact ih0 _ _ _ _ _ _ _
      | exact ih1 _ _ _ _ _ _
      | exact ih2 _ _ _ _ _ _ _
      | exact ih3 _ _ _ _ _ _ _ _ _
      | exact ih4 _ _ _ _ _ _ _ _ _ _ _
      | exact spec_l01Code.mono _ _ _
      | exact spec_l02Distance.mono _ _ _ _ _ _ _ _
      | exact spec_l02Near.mono _ _ _ _ _
      | exact LeO.none _
      | refine LeO.ite ?_ ?_
      | refine LeO.bind ?_ (fun _ => ?_)
theorem spec_SphereAround.mono : ∀ a0 a1 a2 a3 a4 k, LeO (spec_SphereAround.f k a0 a1 a2 a3 a4) (spec_SphereAround.f (k + 1) a0 a1 a2 a3 a4) := by
  intro a0 a1 a2 a3 a4 k
  obtain ⟨ih0, ih1, ih2, ih3, ih4⟩ := spec_SphereAround.mono_l k
  unfold spec_SphereAround.f
  repeat' first
      | (with_reducible exact ih0 _ _ _ _ _ _ _)
      | (with_reducible exact ih1 _ _ _ _ _ _)
      | (with_reducible exact ih2 _ _ _ _ _ _ _)
      | (with_reducible exact ih3 _ _ _ _ _ _ _ _ _)
      | (with_reducible exact ih4 _ _ _ _ _ _ _ _ _ _ _)
      | (with_reducible exact spec_l01Code.mono _ _ _)
      | (with_reducible exact spec_l02Distance.mono _ _ _ _ _ _ _ _)
      | (with_reducible exact spec_l02Near.mono _ _ _ _ _)
      | (with_reducible exact LeO.refl _)
      | (with_reducible exact LeO.none _)
      | (with_reducible refine LeO.ite ?_ ?_)
      | (with_reducible refine LeO.bind ?_ (fun _ => ?_))
      | exact ih0 _ _ _ _ _ _ _
      | exact ih1 _ _ _ _ _ _
      | exact ih2 _ _ _ _ _ _ _
      | exact ih3 _ _ _ _ _ _ _ _ _
      | exact ih4 _ _ _ _ _ _ _ _ _ _ _
      | exact spec_l01Code.mono _ _ _
      | exact spec_l02Distance.mono _ _ _ _ _ _ _ _
      | exact spec_l02Near.mono _ _ _ _ _
      | exact LeO.none _
      | refine LeO.ite ?_ ?_
      | refine LeO.bind ?_ (fun _ => ?_)
def spec_SphereAround.T20 : Bool × List (List Nat × List Nat) := (true, [([], []), ([], []), ([], []), ([], []), ([2, 3], [2, 3]), ([4], [4]), ([0, 1, 5], [0, 1, 5]), ([], []), ([6, 7], [6, 7])])
def spec_SphereAround.B20 : List Nat := [0, 0, 0, 0, 12, 28, 63, 0, 255]
theorem spec_SphereAround.tab20 : rtab .any (opsOf Try.f141 20) = spec_SphereAround.T20 := by kernel_rfl
theorem spec_SphereAround.bits20 : waitsOk spec_SphereAround.T20.2 spec_SphereAround.B20 = true := by kernel_rfl
set_option maxHeartbeats 8000000 in
set_option maxRecDepth 100000 in
theorem spec_SphereAround.calls (k : Nat) (a0 : Int) (a1_0 : Int) (a1_1 : Int) (a1_2 : Int) (a2 : Int) (r1 : List (S34)) (r2 : Int) (w : World) (h : spec_SphereAround.f k a0 a1_0 a1_1 a1_2 a2 = some (r1, r2)) :
    Calls Try.prog 141 #[.int .i64 a0, .agg #[.int .i64 a1_0, .int .i64 a1_1, .int .i64 a1_2], .int .i64 a2] w fun e w' => ∃ v0_ : Value, e = .returned (.tuple #[v0_, .int .i64 r2]) ∧ Kd.R k34 34 w' w.heap.size (fun _ => True) v0_ r1 ∧ Below w.heap.size w w' := by
  have hu34 := Try.underlying34
  have HB := Aside0.mk (Below.refl w.heap.size w)
  have H : ((spec_l01Code.f k a0 (([(⟨a1_0, a1_1, a1_2⟩ : S34)] : List (S34)))).bind fun t1084 => (if t1084 = 0 then ((spec_l01In.f a2 0 4).bind fun t1085 => (spec_SphereAround.j0 k a0 a2 t1084 (!t1085) a1_0 a1_1 a1_2)) else (spec_SphereAround.j0 k a0 a2 t1084 false a1_0 a1_1 a1_2))) = some (r1, r2) := h
  clear h
  obtain ⟨y1081, hy1081⟩ : ∃ y_ : List (S34), y_ = (([(⟨a1_0, a1_1, a1_2⟩ : S34)] : List (S34))) := ⟨_, rfl⟩
  replace H : ((spec_l01Code.f k a0 y1081).bind fun t1084 => (if t1084 = 0 then ((spec_l01In.f a2 0 4).bind fun t1085 => (spec_SphereAround.j0 k a0 a2 t1084 (!t1085) a1_0 a1_1 a1_2)) else (spec_SphereAround.j0 k a0 a2 t1084 false a1_0 a1_1 a1_2))) = some (r1, r2) := by first | (rw [hy1081]; with_reducible exact H) | (have H2_ := (Option.bind_some _ _).symm.trans H; rw [hy1081]; with_reducible exact H2_) | (have H2_ := (Option.bind_some _ _).symm.trans H; with_reducible exact H2_) | with_reducible exact H | (rw [hy1081]; exact H) | exact H
  have Ny1081 := Aside0.mk hy1081
  clear hy1081
  replace H := Option.bind_eq_some_iff.mp H
  obtain ⟨t1084, A40, H⟩ := H
  replace H : (if t1084 = 0 then ((spec_l01In.f a2 0 4).bind fun t1085 => (spec_SphereAround.j0 k a0 a2 t1084 (!t1085) a1_0 a1_1 a1_2)) else (spec_SphereAround.j0 k a0 a2 t1084 false a1_0 a1_1 a1_2)) = some (r1, r2) := H
  have A4 := Aside0.mk A40
  clear A40
  have HC5 := Aside0.mk H
  clear H
  go_enter Try.func141, Try.ntmps141
  go_upto_region 2 with (first | ((with_reducible refine gate_dst (N := 4) rfl ?_); refine box_event ?hg (N := 4) ?hd (cs := #[.int .i64 a1_0, .int .i64 a1_1, .int .i64 a1_2]) (t := 34) ?hr ?_; (case hd => rfl); (case hg => rfl); (case hr => first | (go_simp; done) | (go_simp; rfl)); intro gb1080 hg w6 hbox hb; have n0_ := Aside0.mk (below_step blA hb); have n1_ := Aside0.mk (hbox); have n2_ := Aside0.mk (szA hg blA); have n3_ := Aside0.mk (szA hg blA); clear HB; have HB := n0_; have BK1080 := n1_; have GW1080 := n2_; have GE1080 := n3_; clear n0_ n1_ n2_ n3_; clear hb hbox hg; have hcz7_0 : w6.cell? ⟨gb1080, 0, none⟩ = some (.int .i64 a1_0) := (blk_cell BK1080.out 0).trans rfl; have hcz7_1 : w6.cell? ⟨gb1080, 1, none⟩ = some (.int .i64 a1_1) := (blk_cell BK1080.out 1).trans rfl; have hcz7_2 : w6.cell? ⟨gb1080, 2, none⟩ = some (.int .i64 a1_2) := (blk_cell BK1080.out 2).trans rfl; have hfz7_0 := blk_frozen BK1080.out 0; have hfz7_1 := blk_frozen BK1080.out 1; have hfz7_2 := blk_frozen BK1080.out 2) | ((with_reducible refine gate_dst (N := 18) rfl ?_); refine Kd.R_lit k34 _ 34 ?hg (N := 18) ?hd (xs := ([(⟨a1_0, a1_1, a1_2⟩ : S34)] : List (S34))) (inner := [.int .i64 a1_0, .int .i64 a1_1, .int .i64 a1_2]) (ok := fun _ => True) (okp := fun _ => True) ?hr ?hp (fun _ hk => hk) trivial (Below.refl _ _) (Nat.le_refl _) (by simp) ?_; (case hd => rfl); (case hg => rfl); (case hr => first | (go_simp; done) | (go_simp; rfl)); (case hp => exact (Reps.c3 (show Kd.M k34 _ _ _ (⟨a1_0, a1_1, a1_2⟩ : S34) [.int .i64 a1_0, .int .i64 a1_1, .int .i64 a1_2] from (k34_mkM _ _ _ (⟨a1_0, a1_1, a1_2⟩ : S34) )) (Reps.none _ _))); intro v1082 w8 ho9 hb hg_ hnew_; clear hg_ hnew_; (first | rw [← Ny1081.out] at ho9 | (simp only [Int.reduceToNat] at ho9; rw [← Ny1081.out] at ho9)); have n0_ := Aside0.mk (Kd.R_lower (Kd.R_newB ho9 (bkA BK1080)) (below_size blA)); have n1_ := Aside0.mk (blk_below (bkA BK1080) hb); have n2_ := Aside0.mk (below_step blA hb); clear BK1080; clear HB; have HO1083 := n0_; have BK1080 := n1_; have HB := n2_; clear n0_ n1_ n2_; clear hb ho9; obtain ⟨Ao10, co10, eo10⟩ := Kd.R_slice HO1083.out; subst eo10) | ((with_reducible refine gate_callee (f := 65) rfl ?_); refine goesL_ (some 19) rfl rfl Try.func65 (by kernel_rfl) rfl #[.int .i64 a0, .slice Ao10 y1081.length co10] rfl (by (try simp only [List.map_toArray, List.map_cons, List.map_nil]); first | done | rfl | (simp only [List.length_drop, List.length_take]; rfl)) ?_; (with_reducible refine (spec_l01Code.calls k a0 _ _ y1081 t1084 _ ?side1 ?side2 A4.out).mono ?_); (case side1 => repeat (first | exact (Kd.R_reads' HO1083.out).2.2 | (with_reducible refine Kd.C_alloc ?_ _) | (with_reducible refine Kd.C_drewN ?_ _) | (with_reducible refine Kd.C_drew ?_))); (case side2 => exact (Kd.R_reads' HO1083.out).2.1); rintro e w11 ⟨rfl, hb⟩; refine ⟨_, rfl, ?_⟩; have n0_ := Aside0.mk (Kd.R_below (by (with_reducible repeat (first | apply Kd.R_alloc | apply Kd.R_drewN | apply Kd.R_drew)); exact HO1083.out) hb); have n1_ := Aside0.mk (blk_below (bkA BK1080) hb); have n2_ := Aside0.mk (below_step blA hb); clear HO1083; clear BK1080; clear HB; have HO1083 := n0_; have BK1080 := n1_; have HB := n2_; clear n0_ n1_ n2_; (try clear hb); (try clear hb2); (try clear hk); (try clear hi)))
  (try simp only [Act.put, List.setIfInBounds_toArray, List.set_cons_zero, List.set_cons_succ])
  go_cut [26] (fun v26 wc => ∃ (kq : Nat) (x26_4 : Bool), v26 = .bool x26_4 ∧ Aside0 (spec_SphereAround.j0 kq a0 a2 t1084 x26_4 a1_0 a1_1 a1_2 = some (r1, r2)) ∧ Aside0 (kq ≤ k) ∧ Aside0 (wc.heap[gb1080]? = some (.cells #[.int .i64 a1_0, .int .i64 a1_1, .int .i64 a1_2] 34 (0, 0))) ∧ Aside0 (Below w.heap.size w wc))
  case first =>
    have H := HC5.out
    clear HC5
    by_cases c12 : t1084 = 0
    · rw [if_pos c12] at H
      have c12b0 : (t1084 == 0) = true := beq_iff_eq.mpr c12
      have c12b1 : (t1084 != 0) = false := bne_eq_false_iff_eq.mpr c12
      clear c12
      (first | rw [c12b0] | (simp only [i64_w, i32_w]; rw [c12b0]) | skip)
      replace H := Option.bind_eq_some_iff.mp H
      obtain ⟨t1085, A130, H⟩ := H
      replace H : (spec_SphereAround.j0 k a0 a2 t1084 (!t1085) a1_0 a1_1 a1_2) = some (r1, r2) := H
      have A13 := Aside0.mk A130
      clear A130
      have H' := Aside0.mk H
      clear H
      go_wp2_with (first | (go_at_call 74; (with_reducible refine (spec_l01In.calls a2 0 4 t1085 _ A13.out).mono ?_); rintro e w' ⟨rfl, ⟨nd, rfl⟩⟩))
      go_meet
      case rel => exact ⟨_, (!t1085), (by first | rfl | (simp; done) | (simp [*]; done)), H', ⟨by first | omega | exact Nat.le_refl _⟩, ⟨bkA BK1080⟩, ⟨blA⟩⟩
    · rw [if_neg c12] at H
      have c12b0 : (t1084 == 0) = false := beq_eq_false_iff_ne.mpr c12
      have c12b1 : (t1084 != 0) = true := bne_iff_ne.mpr c12
      (first | rw [c12b0] | (simp only [i64_w, i32_w]; rw [c12b0]) | skip)
      have H' := Aside0.mk H
      clear H
      go_wp2
      go_meet
      case rel => exact ⟨_, (false), (by first | rfl | (simp; done) | (simp [*]; done)), H', ⟨by first | omega | exact Nat.le_refl _⟩, ⟨bkA BK1080⟩, ⟨blA⟩⟩
  case rest =>
    clear HC5
    try clear c1
    try clear p2
    try clear c3
    try clear c6
    try clear c12
    try clear c12b0
    try clear c12b1
    try clear hcz7_0
    try clear hcz7_1
    try clear hcz7_2
    try clear hfz7_0
    try clear hfz7_1
    try clear hfz7_2
    obtain ⟨kq, x26_4, rfl, HA, HJ4, BK1080, HB⟩ := hcut
    cases kq with
    | zero => exact absurd HA.out (by simp [spec_SphereAround.j0])
    | succ kj4 =>
      have H := HA.out
      clear HA
      simp only [spec_SphereAround.j0] at H
      have HC14 := Aside0.mk H
      clear H
      go_upto_if 26 with (fail)
      go_cut [8] (fun v8 wc => ∃ (kq : Nat) (x8_13 : Int), v8 = .int .i64 x8_13 ∧ Aside0 (spec_SphereAround.j1 kq a0 a2 x8_13 a1_0 a1_1 a1_2 = some (r1, r2)) ∧ Aside0 (kq ≤ kj4) ∧ Aside0 (wc.heap[gb1080]? = some (.cells #[.int .i64 a1_0, .int .i64 a1_1, .int .i64 a1_2] 34 (0, 0))) ∧ Aside0 (Below w.heap.size w wc))
      case first =>
        have H := HC14.out
        clear HC14
        by_cases c15 : x26_4 = true
        · subst c15
          have H1 : (spec_SphereAround.j1 kj4 a0 a2 2 a1_0 a1_1 a1_2) = some (r1, r2) := by rw [if_pos rfl] at H; exact H
          clear H
          have H := H1
          clear H1
          have H' := Aside0.mk H
          clear H
          go_wp2
          go_meet
          case rel => exact ⟨_, (2), (by first | rfl | (simp; done) | (simp [*]; done)), H', ⟨by have := HJ4.out; first | omega | exact Nat.le_refl _⟩, ⟨bkA BK1080⟩, ⟨blA⟩⟩
        · replace c15 := Bool.eq_false_iff.mpr c15
          subst c15
          have H1 : (spec_SphereAround.j1 kj4 a0 a2 t1084 a1_0 a1_1 a1_2) = some (r1, r2) := by rw [if_neg (show ¬ (false = true) by decide)] at H; exact H
          clear H
          have H := H1
          clear H1
          have H' := Aside0.mk H
          clear H
          go_wp2
          go_meet
          case rel => exact ⟨_, (t1084), (by first | rfl | (simp; done) | (simp [*]; done)), H', ⟨by have := HJ4.out; first | omega | exact Nat.le_refl _⟩, ⟨bkA BK1080⟩, ⟨blA⟩⟩
      case rest =>
        clear HC14
        try clear c1
        try clear p2
        try clear c3
        try clear c6
        try clear c12
        try clear c12b0
        try clear c12b1
        try clear c14
        try clear c15
        try clear hcz7_0
        try clear hcz7_1
        try clear hcz7_2
        try clear hfz7_0
        try clear hfz7_1
        try clear hfz7_2
        try clear p2
        obtain ⟨kq, x8_13, rfl, HA, HJ13, BK1080, HB⟩ := hcut
        cases kq with
        | zero => exact absurd HA.out (by simp [spec_SphereAround.j1])
        | succ kj13 =>
          have H := HA.out
          clear HA
          simp only [spec_SphereAround.j1] at H
          by_cases c16 : x8_13 = 0
          · rw [if_pos c16] at H
            have c16b0 : (x8_13 == 0) = true := beq_iff_eq.mpr c16
            have c16b1 : (x8_13 != 0) = false := bne_eq_false_iff_eq.mpr c16
            clear c16
            obtain ⟨y1086, hy1086⟩ : ∃ y_ : List (S34), y_ = (([(⟨a1_0, a1_1, a1_2⟩ : S34)] : List (S34))) := ⟨_, rfl⟩
            replace H : (spec_SphereAround.l0 kj13 a0 a2 y1086 1 a1_0 a1_1 a1_2) = some (r1, r2) := by first | (rw [hy1086]; with_reducible exact H) | (have H2_ := (Option.bind_some _ _).symm.trans H; rw [hy1086]; with_reducible exact H2_) | (have H2_ := (Option.bind_some _ _).symm.trans H; with_reducible exact H2_) | with_reducible exact H | (rw [hy1086]; exact H) | exact H
            have Ny1086 := Aside0.mk hy1086
            clear hy1086
            have H' := Aside0.mk H
            clear H
            have hcz17_0 : wc.cell? ⟨gb1080, 0, none⟩ = some (.int .i64 a1_0) := (blk_cell BK1080.out 0).trans rfl
            have hcz17_1 : wc.cell? ⟨gb1080, 1, none⟩ = some (.int .i64 a1_1) := (blk_cell BK1080.out 1).trans rfl
            have hcz17_2 : wc.cell? ⟨gb1080, 2, none⟩ = some (.int .i64 a1_2) := (blk_cell BK1080.out 2).trans rfl
            have hfz17_0 := blk_frozen BK1080.out 0
            have hfz17_1 := blk_frozen BK1080.out 1
            have hfz17_2 := blk_frozen BK1080.out 2
            go_wp2_with (first | ((with_reducible refine gate_dst (N := 31) rfl ?_); refine Kd.R_lit k34 _ 34 ?hg (N := 31) ?hd (xs := ([(⟨a1_0, a1_1, a1_2⟩ : S34)] : List (S34))) (inner := [.int .i64 a1_0, .int .i64 a1_1, .int .i64 a1_2]) (ok := fun _ => True) (okp := fun _ => True) ?hr ?hp (fun _ hk => hk) trivial (Below.refl _ _) (Nat.le_refl _) (by simp) ?_; (case hd => rfl); (case hg => rfl); (case hr => first | (go_simp; done) | (go_simp; rfl)); (case hp => exact (Reps.c3 (show Kd.M k34 _ _ _ (⟨a1_0, a1_1, a1_2⟩ : S34) [.int .i64 a1_0, .int .i64 a1_1, .int .i64 a1_2] from (k34_mkM _ _ _ (⟨a1_0, a1_1, a1_2⟩ : S34) )) (Reps.none _ _))); intro v1087 w18 ho19 hb hg_ hnew_; clear hg_ hnew_; (first | rw [← Ny1086.out] at ho19 | (simp only [Int.reduceToNat] at ho19; rw [← Ny1086.out] at ho19)); have n0_ := Aside0.mk (Kd.R_lower (Kd.R_newB ho19 (bkA BK1080)) (below_size blA)); have n1_ := Aside0.mk (blk_below (bkA BK1080) hb); have n2_ := Aside0.mk (below_step blA hb); clear BK1080; clear HB; have HO1088 := n0_; have BK1080 := n1_; have HB := n2_; clear n0_ n1_ n2_; clear hb ho19))
            go_loopg [9, 10] kj13 (fun kq v9 v10 w' => ∃ (x9_3 : List (S34)) (x10_3 : Int), v10 = .int .i64 x10_3 ∧ Aside0 (spec_SphereAround.l0 kq a0 a2 x9_3 x10_3 a1_0 a1_1 a1_2 = some (r1, r2)) ∧ Aside0 (kq ≤ kj13) ∧ Aside0 (Kd.R k34 34 w' w.heap.size (fun k_ => k_ ≠ gb1080) v9 x9_3) ∧ Aside0 (w'.heap[gb1080]? = some (.cells #[.int .i64 a1_0, .int .i64 a1_1, .int .i64 a1_2] 34 (0, 0))) ∧ Aside0 (Below w.heap.size w w'))
            case atStart => exact ⟨(y1086), (1), (by first | rfl | (simp; done) | (simp [*]; done)), H', ⟨Nat.le_refl _⟩, ⟨by (with_reducible repeat (first | apply Kd.R_alloc | apply Kd.R_drewN | apply Kd.R_drew)); exact Kd.R_mono HO1088.out (fun _ hk => hk.2)⟩, ⟨bkA BK1080⟩, ⟨blA⟩⟩
            case round =>
              clear H'
              try clear c1
              try clear p2
              try clear c3
              try clear c6
              try clear c12
              try clear c12b0
              try clear c12b1
              try clear c14
              try clear c15
              try clear c16
              try clear c16b0
              try clear c16b1
              try clear hcz17_0
              try clear hcz17_1
              try clear hcz17_2
              try clear hcz7_0
              try clear hcz7_1
              try clear hcz7_2
              try clear hfz17_0
              try clear hfz17_1
              try clear hfz17_2
              try clear hfz7_0
              try clear hfz7_1
              try clear hfz7_2
              try clear p2
              obtain ⟨x9_3, x10_3, rfl, HA, HK3, HO_9, BK1080, HB⟩ := hrel
              cases gk with
              | zero => exact absurd HA.out (by simp [spec_SphereAround.l0])
              | succ k3 =>
                have H := HA.out
                clear HA
                simp only [spec_SphereAround.l0] at H
                by_cases c20 : x10_3 ≤ a2
                · rw [if_pos c20] at H
                  have c20b0 : decide (x10_3 ≤ a2) = true := decide_eq_true c20
                  clear c20
                  obtain ⟨y1089, hy1089⟩ : ∃ y_ : List (S34), y_ = (([] : List (S34))) := ⟨_, rfl⟩
                  replace H : (spec_SphereAround.l1 k3 a0 a2 x9_3 x10_3 y1089 0 a1_0 a1_1 a1_2) = some (r1, r2) := by first | (rw [hy1089]; with_reducible exact H) | (have H2_ := (Option.bind_some _ _).symm.trans H; rw [hy1089]; with_reducible exact H2_) | (have H2_ := (Option.bind_some _ _).symm.trans H; with_reducible exact H2_) | with_reducible exact H | (rw [hy1089]; exact H) | exact H
                  have Ny1089 := Aside0.mk hy1089
                  clear hy1089
                  have H' := Aside0.mk H
                  clear H
                  go_wp2_with (first | ((with_reducible refine gate_dst (N := 37) rfl ?_); refine Kd.R_lit k34 _ 34 ?hg (N := 37) ?hd (xs := ([] : List (S34))) (inner := []) (ok := fun _ => True) (okp := fun _ => True) ?hr ?hp (fun _ hk => hk) trivial (Below.refl _ _) (Nat.le_refl _) (by simp) ?_; (case hd => rfl); (case hg => rfl); (case hr => first | (go_simp; done) | (go_simp; rfl)); (case hp => exact (Reps.none _ _)); intro v1090 w21 ho22 hb hg_ hnew_; clear hg_ hnew_; (first | rw [← Ny1089.out] at ho22 | (simp only [Int.reduceToNat] at ho22; rw [← Ny1089.out] at ho22)); have n0_ := Aside0.mk (Kd.R_elder' (by (with_reducible repeat (first | apply Kd.R_alloc | apply Kd.R_drewN | apply Kd.R_drew)); exact HO_9.out) (Kd.R_base ho22) hb); have n1_ := Aside0.mk (Kd.R_lower (Kd.R_newB (Kd.R_new' ho22 (Kd.R_lt (by (with_reducible repeat (first | apply Kd.R_alloc | apply Kd.R_drewN | apply Kd.R_drew)); exact HO_9.out))) (bkA BK1080)) (below_size blA)); have n2_ := Aside0.mk (blk_below (bkA BK1080) hb); have n3_ := Aside0.mk (below_step blA hb); clear HO_9; clear BK1080; clear HB; have HO_9 := n0_; have HO1091 := n1_; have BK1080 := n2_; have HB := n3_; clear n0_ n1_ n2_ n3_; clear hb ho22))
                  go_loopg [11, 12] k3 (fun kq v11 v12 w' => ∃ (x11_4 : List (S34)) (x12_4 : Int), v12 = .int .i64 x12_4 ∧ Aside0 (spec_SphereAround.l1 kq a0 a2 x9_3 x10_3 x11_4 x12_4 a1_0 a1_1 a1_2 = some (r1, r2)) ∧ Aside0 (kq ≤ k3) ∧ Aside0 (Kd.R k34 34 w' w.heap.size (fun k_ => some k_ ≠ (v11 : Value).ownBlock ∧ k_ ≠ gb1080) u9 x9_3) ∧ Aside0 (Kd.R k34 34 w' w.heap.size (fun k_ => some k_ ≠ (u9 : Value).ownBlock ∧ k_ ≠ gb1080) v11 x11_4) ∧ Aside0 (w'.heap[gb1080]? = some (.cells #[.int .i64 a1_0, .int .i64 a1_1, .int .i64 a1_2] 34 (0, 0))) ∧ Aside0 (Below w.heap.size w w'))
                  case atStart => exact ⟨(y1089), (0), (by first | rfl | (simp; done) | (simp [*]; done)), H', ⟨Nat.le_refl _⟩, ⟨by (with_reducible repeat (first | apply Kd.R_alloc | apply Kd.R_drewN | apply Kd.R_drew)); exact Kd.R_mono HO_9.out (fun _ hk => ⟨hk.2, hk.1⟩)⟩, ⟨by (with_reducible repeat (first | apply Kd.R_alloc | apply Kd.R_drewN | apply Kd.R_drew)); exact Kd.R_mono HO1091.out (fun _ hk => ⟨hk.1.2, hk.2⟩)⟩, ⟨bkA BK1080⟩, ⟨blA⟩⟩
                  case round =>
                    clear H'
                    try clear c1
                    try clear c2
                    try clear p2
                    try clear c3
                    try clear c6
                    try clear c12
                    try clear c12b0
                    try clear c12b1
                    try clear c14
                    try clear c15
                    try clear c16
                    try clear c16b0
                    try clear c16b1
                    try clear c20
                    try clear c20b0
                    try clear hcz17_0
                    try clear hcz17_1
                    try clear hcz17_2
                    try clear hcz7_0
                    try clear hcz7_1
                    try clear hcz7_2
                    try clear hfz17_0
                    try clear hfz17_1
                    try clear hfz17_2
                    try clear hfz7_0
                    try clear hfz7_1
                    try clear hfz7_2
                    try clear p2
                    obtain ⟨x11_4, x12_4, rfl, HA, HK4, HO_9, HO_11, BK1080, HB⟩ := hrel
                    cases gk with
                    | zero => exact absurd HA.out (by simp [spec_SphereAround.l1])
                    | succ k4 =>
                      have H := HA.out
                      clear HA
                      simp only [spec_SphereAround.l1] at H
                      by_cases c23 : x12_4 < (x9_3.length : Int)
                      · rw [if_pos c23] at H
                        have c23b0 : decide (x12_4 < (x9_3.length : Int)) = true := decide_eq_true c23
                        clear c23
                        by_cases c24 : 0 ≤ x12_4
                        · rw [if_pos c24] at H
                          have c24b0 : decide (0 ≤ x12_4) = true := decide_eq_true c24
                          clear c24
                          replace H := Option.bind_eq_some_iff.mp H
                          obtain ⟨⟨t1093, t1096⟩, A250, H⟩ := H
                          replace H : (if t1096 = true then (spec_SphereAround.l2 k4 a0 a2 x9_3 x10_3 x11_4 x12_4 t1093 0 a1_0 a1_1 a1_2) else (some (([] : List (S34)), 3))) = some (r1, r2) := H
                          have A25 := Aside0.mk A250
                          clear A250
                          by_cases c26 : t1096 = true
                          · subst c26
                            have H1 : (spec_SphereAround.l2 k4 a0 a2 x9_3 x10_3 x11_4 x12_4 t1093 0 a1_0 a1_1 a1_2) = some (r1, r2) := by rw [if_pos rfl] at H; exact H
                            clear H
                            have H := H1
                            clear H1
                            have H' := Aside0.mk H
                            clear H
                            obtain ⟨Ao27, co27, eo27⟩ := Kd.R_slice HO_9.out
                            subst eo27
                            have p1092 : 0 ≤ (x12_4 : Int) := of_decide_eq_true (by first | (with_reducible assumption) | assumption)
                            have q1092 : x12_4 < (x9_3.length : Int) := of_decide_eq_true (by first | (with_reducible assumption) | assumption)
                            obtain ⟨ad1092, e1092, hx1092_0, hx1092_1, hx1092_2⟩ := at_T34 (Kd.R_reads' HO_9.out).2.2 x12_4 p1092 q1092
                            cases e1092
                            replace p1092 := eq_true p1092
                            replace q1092 := eq_true q1092
                            go_wp2_with (first | ((with_reducible refine gate_callee (f := 152) rfl ?_); refine goesL_ (some 50) rfl rfl Try.func152 (by kernel_rfl) rfl #[.int .i64 a0, .agg #[.int .i64 ((rd_T34 x9_3 x12_4).f0), .int .i64 ((rd_T34 x9_3 x12_4).f1), .int .i64 ((rd_T34 x9_3 x12_4).f2)]] rfl (by (try simp only [List.map_toArray, List.map_cons, List.map_nil]); first | done | rfl | (simp only [List.length_drop, List.length_take]; rfl)) ?_; (with_reducible refine (spec_l02Near.calls k4 a0 ((rd_T34 x9_3 x12_4).f0) ((rd_T34 x9_3 x12_4).f1) ((rd_T34 x9_3 x12_4).f2) t1093 true _ A25.out).mono ?_); rintro e w28 ⟨v1094, rfl, ho0, hb⟩; refine ⟨_, rfl, ?_⟩; have n0_ := Aside0.mk (Kd.R_elder' (by (with_reducible repeat (first | apply Kd.R_alloc | apply Kd.R_drewN | apply Kd.R_drew)); exact HO_9.out) (Kd.R_base ho0) hb); have n1_ := Aside0.mk (Kd.R_elder' (by (with_reducible repeat (first | apply Kd.R_alloc | apply Kd.R_drewN | apply Kd.R_drew)); exact HO_11.out) (Kd.R_base ho0) hb); have n2_ := Aside0.mk (Kd.R_lower (Kd.R_newB (Kd.R_new' (Kd.R_new' ho0 (Kd.R_lt (by (with_reducible repeat (first | apply Kd.R_alloc | apply Kd.R_drewN | apply Kd.R_drew)); exact HO_9.out))) (Kd.R_lt (by (with_reducible repeat (first | apply Kd.R_alloc | apply Kd.R_drewN | apply Kd.R_drew)); exact HO_11.out))) (bkA BK1080)) (below_size blA)); have n3_ := Aside0.mk (blk_below (bkA BK1080) hb); have n4_ := Aside0.mk (below_step blA hb); clear HO_9; clear HO_11; clear BK1080; clear HB; have HO_9 := n0_; have HO_11 := n1_; have HO1095 := n2_; have BK1080 := n3_; have HB := n4_; clear n0_ n1_ n2_ n3_ n4_; (try clear hb); (try clear hb2); (try clear hk); (try clear hi); (try clear ho0)))
                            go_loopg [11, 15] k4 (fun kq v11 v15 w' => ∃ (x11_5 : List (S34)) (x15_5 : Int), v15 = .int .i64 x15_5 ∧ Aside0 (spec_SphereAround.l2 kq a0 a2 x9_3 x10_3 x11_5 x12_4 t1093 x15_5 a1_0 a1_1 a1_2 = some (r1, r2)) ∧ Aside0 (kq ≤ k4) ∧ Aside0 (Kd.R k34 34 w' w.heap.size (fun k_ => some k_ ≠ (v11 : Value).ownBlock ∧ some k_ ≠ (v1094 : Value).ownBlock ∧ k_ ≠ gb1080) (.slice (some ad1092) x9_3.length co27) x9_3) ∧ Aside0 (Kd.R k34 34 w' w.heap.size (fun k_ => some k_ ≠ ((.slice (some ad1092) x9_3.length co27) : Value).ownBlock ∧ some k_ ≠ (v1094 : Value).ownBlock ∧ k_ ≠ gb1080) v11 x11_5) ∧ Aside0 (Kd.R k34 34 w' w.heap.size (fun k_ => some k_ ≠ ((.slice (some ad1092) x9_3.length co27) : Value).ownBlock ∧ some k_ ≠ (v11 : Value).ownBlock ∧ k_ ≠ gb1080) v1094 t1093) ∧ Aside0 (w'.heap[gb1080]? = some (.cells #[.int .i64 a1_0, .int .i64 a1_1, .int .i64 a1_2] 34 (0, 0))) ∧ Aside0 (Below w.heap.size w w'))
                            case atStart => exact ⟨(x11_4), (0), (by first | rfl | (simp; done) | (simp [*]; done)), H', ⟨Nat.le_refl _⟩, ⟨by (with_reducible repeat (first | apply Kd.R_alloc | apply Kd.R_drewN | apply Kd.R_drew)); exact Kd.R_mono HO_9.out (fun _ hk => ⟨hk.1.1, ⟨hk.2, hk.1.2⟩⟩)⟩, ⟨by (with_reducible repeat (first | apply Kd.R_alloc | apply Kd.R_drewN | apply Kd.R_drew)); exact Kd.R_mono HO_11.out (fun _ hk => ⟨hk.1.1, ⟨hk.2, hk.1.2⟩⟩)⟩, ⟨by (with_reducible repeat (first | apply Kd.R_alloc | apply Kd.R_drewN | apply Kd.R_drew)); exact Kd.R_mono HO1095.out (fun _ hk => ⟨hk.1.1.2, ⟨hk.1.2, hk.2⟩⟩)⟩, ⟨bkA BK1080⟩, ⟨blA⟩⟩
                            case round =>
                              clear H'
                              try clear c1
                              try clear p1
                              try clear q1
                              try clear hx1
                              try clear c2
                              try clear p2
                              try clear c3
                              try clear c6
                              try clear p10
                              try clear q10
                              try clear hx10
                              try clear c12
                              try clear c12b0
                              try clear c12b1
                              try clear c14
                              try clear c15
                              try clear c16
                              try clear c16b0
                              try clear c16b1
                              try clear c20
                              try clear c20b0
                              try clear c23
                              try clear c23b0
                              try clear c24
                              try clear c24b0
                              try clear c26
                              try clear hcz17_0
                              try clear hcz17_1
                              try clear hcz17_2
                              try clear hcz7_0
                              try clear hcz7_1
                              try clear hcz7_2
                              try clear hfz17_0
                              try clear hfz17_1
                              try clear hfz17_2
                              try clear hfz7_0
                              try clear hfz7_1
                              try clear hfz7_2
                              try clear hx1092_0
                              try clear hx1092_1
                              try clear hx1092_2
                              try clear p1092
                              try clear p2
                              try clear q1092
                              obtain ⟨x11_5, x15_5, rfl, HA, HK5, HO_9, HO_11, HO_13, BK1080, HB⟩ := hrel
                              cases gk with
                              | zero => exact absurd HA.out (by simp [spec_SphereAround.l2])
                              | succ k5 =>
                                have H := HA.out
                                clear HA
                                simp only [spec_SphereAround.l2] at H
                                by_cases c29 : x15_5 < (t1093.length : Int)
                                · rw [if_pos c29] at H
                                  have c29b0 : decide (x15_5 < (t1093.length : Int)) = true := decide_eq_true c29
                                  clear c29
                                  by_cases c30 : 0 ≤ x15_5
                                  · rw [if_pos c30] at H
                                    have c30b0 : decide (0 ≤ x15_5) = true := decide_eq_true c30
                                    clear c30
                                    replace H := Option.bind_eq_some_iff.mp H
                                    obtain ⟨t1098, A310, H⟩ := H
                                    replace H : (if t1098 = x10_3 then (if x11_5.length < 5864062014805 then (spec_SphereAround.l2 k5 a0 a2 x9_3 x10_3 (x11_5 ++ [(⟨(rd_T34 t1093 x15_5).f0, (rd_T34 t1093 x15_5).f1, (rd_T34 t1093 x15_5).f2⟩ : S34)]) x12_4 t1093 (wrap64 (x15_5 + 1)) a1_0 a1_1 a1_2) else (none)) else (spec_SphereAround.l2 k5 a0 a2 x9_3 x10_3 x11_5 x12_4 t1093 (wrap64 (x15_5 + 1)) a1_0 a1_1 a1_2)) = some (r1, r2) := H
                                    have A31 := Aside0.mk A310
                                    clear A310
                                    by_cases c32 : t1098 = x10_3
                                    · rw [if_pos c32] at H
                                      have c32b0 : (t1098 == x10_3) = true := beq_iff_eq.mpr c32
                                      have c32b1 : (t1098 != x10_3) = false := bne_eq_false_iff_eq.mpr c32
                                      clear c32
                                      by_cases c33 : x11_5.length < 5864062014805
                                      · rw [if_pos c33] at H
                                        have LMc33 := Aside0.mk c33
                                        clear c33
                                        obtain ⟨y1100, hy1100⟩ : ∃ y_ : List (S34), y_ = (x11_5 ++ [(⟨(rd_T34 t1093 x15_5).f0, (rd_T34 t1093 x15_5).f1, (rd_T34 t1093 x15_5).f2⟩ : S34)]) := ⟨_, rfl⟩
                                        replace H : (spec_SphereAround.l2 k5 a0 a2 x9_3 x10_3 y1100 x12_4 t1093 (wrap64 (x15_5 + 1)) a1_0 a1_1 a1_2) = some (r1, r2) := by first | (rw [hy1100]; with_reducible exact H) | (have H2_ := (Option.bind_some _ _).symm.trans H; rw [hy1100]; with_reducible exact H2_) | (have H2_ := (Option.bind_some _ _).symm.trans H; with_reducible exact H2_) | with_reducible exact H | (rw [hy1100]; exact H) | exact H
                                        have Ny1100 := Aside0.mk hy1100
                                        clear hy1100
                                        have H' := Aside0.mk H
                                        clear H
                                        obtain ⟨Ao34, co34, eo34⟩ := Kd.R_slice HO_13.out
                                        subst eo34
                                        try go_wp2
                                        have n0_ := Aside0.mk (Kd.R_drew HO_9.out)
                                        have n1_ := Aside0.mk (Kd.R_drew HO_11.out)
                                        have n2_ := Aside0.mk (Kd.R_drew HO_13.out)
                                        have n3_ := Aside0.mk (blk_drew BK1080.out)
                                        have n4_ := Aside0.mk (below_drew1 HB.out)
                                        clear HO_9
                                        clear HO_11
                                        clear HO_13
                                        clear BK1080
                                        clear HB
                                        have HO_9 := n0_
                                        have HO_11 := n1_
                                        have HO_13 := n2_
                                        have BK1080 := n3_
                                        have HB := n4_
                                        clear n0_ n1_ n2_ n3_ n4_
                                        have p1097 : 0 ≤ (x15_5 : Int) := of_decide_eq_true (by first | (with_reducible assumption) | assumption)
                                        have q1097 : x15_5 < (t1093.length : Int) := of_decide_eq_true (by first | (with_reducible assumption) | assumption)
                                        obtain ⟨ad1097, e1097, hx1097_0, hx1097_1, hx1097_2⟩ := at_T34 (Kd.R_reads' HO_13.out).2.2 x15_5 p1097 q1097
                                        cases e1097
                                        replace p1097 := eq_true p1097
                                        replace q1097 := eq_true q1097
                                        refine start_ (n := 9) (S := fun w' => w'.cell? ⟨gb1080, 0, none⟩ = some (.int .i64 a1_0) ∧ w'.cell? ⟨gb1080, 1, none⟩ = some (.int .i64 a1_1) ∧ w'.cell? ⟨gb1080, 2, none⟩ = some (.int .i64 a1_2) ∧ w'.cell? (ad1097.add ((x15_5).toNat * 3)) = some (.int .i64 ((rd_T34 t1093 x15_5).f0)) ∧ w'.cell? ⟨(ad1097.add ((x15_5).toNat * 3)).block, (ad1097.add ((x15_5).toNat * 3)).off + 1, none⟩ = some (.int .i64 ((rd_T34 t1093 x15_5).f1)) ∧ w'.cell? ⟨(ad1097.add ((x15_5).toNat * 3)).block, (ad1097.add ((x15_5).toNat * 3)).off + 2, none⟩ = some (.int .i64 ((rd_T34 t1093 x15_5).f2))) (ds := []) #[false, false, false, false, false, false, false, false, false] (by kernel_rfl) rfl rfl ⟨(blk_cell BK1080.out 0).trans rfl, (blk_cell BK1080.out 1).trans rfl, (blk_cell BK1080.out 2).trans rfl, hx1097_0, hx1097_1, hx1097_2⟩ (fun hHeld => ?_); refine with_tabW spec_SphereAround.tab20 spec_SphereAround.bits20 (fun HT_ HW_ => ?_)
                                        generalize wr.drew = w35 at HO_9 HO_11 HO_13 BK1080 HB hx1097_0 hx1097_1 hx1097_2 hHeld ⊢
                                        refine pure_ (i := 0) (N := some 61) (v := ?_) (a' := ?_) #[true, false, false, false, false, false, false, false, false] rfl rfl (any_of HT_.out (by kernel_rfl)) (fun _ _ _ h => h) (Or.inl ⟨by rfl, ?_⟩) ?_ ?_
                                        rotate_left
                                        · intro w'
                                          go_simp
                                          with_reducible rfl
                                        rotate_left
                                        · simp only [Act.put, List.setIfInBounds_toArray, List.set_cons_zero, List.set_cons_succ, i64_w, i32_w]
                                          rfl
                                        refine pure_ (i := 2) (N := some 63) (v := ?_) (a' := ?_) #[true, false, true, false, false, false, false, false, false] rfl rfl (any_of HT_.out (by kernel_rfl)) (fun _ _ _ h => h) (Or.inl ⟨by rfl, ?_⟩) ?_ ?_
                                        rotate_left
                                        · intro w'
                                          go_simp
                                          with_reducible rfl
                                        rotate_left
                                        · simp only [Act.put, List.setIfInBounds_toArray, List.set_cons_zero, List.set_cons_succ, i64_w, i32_w]
                                          rfl
                                        refine pure_ (i := 3) (N := some 64) (v := ?_) (a' := ?_) #[true, false, true, true, false, false, false, false, false] rfl rfl (any_of HT_.out (by kernel_rfl)) (fun _ _ _ h => h) (Or.inl ⟨by rfl, ?_⟩) ?_ ?_
                                        rotate_left
                                        · intro w'
                                          go_simp
                                          with_reducible rfl
                                        rotate_left
                                        · simp only [Act.put, List.setIfInBounds_toArray, List.set_cons_zero, List.set_cons_succ, i64_w, i32_w]
                                          rfl
                                        refine pure_ (i := 4) (N := some 65) (v := ?_) (a' := ?_) #[true, false, true, true, true, false, false, false, false] rfl rfl (any_of HT_.out (by kernel_rfl)) (fun _ _ _ h => h) (Or.inl ⟨by rfl, ?_⟩) ?_ ?_
                                        rotate_left
                                        · intro w'
                                          go_simp
                                          with_reducible rfl
                                        rotate_left
                                        · simp only [Act.put, List.setIfInBounds_toArray, List.set_cons_zero, List.set_cons_succ, i64_w, i32_w]
                                          rfl
                                        refine pure_ (i := 7) (N := some 68) (v := ?_) (a' := ?_) #[true, false, true, true, true, false, false, true, false] rfl rfl (any_of HT_.out (by kernel_rfl)) (fun _ _ _ h => h) (Or.inl ⟨by rfl, ?_⟩) ?_ ?_
                                        rotate_left
                                        · intro w'
                                          go_simp
                                          with_reducible rfl
                                        rotate_left
                                        · simp only [Act.put, List.setIfInBounds_toArray, List.set_cons_zero, List.set_cons_succ, i64_w, i32_w]
                                          rfl
                                        refine take_ (i := 1) (N := some 62) (v := ?_) (a' := ?_) #[true, true, true, true, true, false, false, true, false] rfl rfl (take_ofW HT_.out HW_.out (by kernel_rfl)) (fun _ _ _ h => h) (Or.inl ⟨by rfl, ?_⟩) hHeld ?_ ?_
                                        rotate_left
                                        · rintro w' ⟨s0, s1, s2, s3, s4, s5⟩
                                          go_simp
                                          with_reducible rfl
                                        rotate_left
                                        · simp only [Act.put, List.setIfInBounds_toArray, List.set_cons_zero, List.set_cons_succ, i64_w, i32_w]
                                          rfl
                                        refine take_ (i := 5) (N := some 66) (v := ?_) (a' := ?_) #[true, true, true, true, true, true, false, true, false] rfl rfl (take_ofW HT_.out HW_.out (by kernel_rfl)) (fun _ _ _ h => h) (Or.inl ⟨by rfl, ?_⟩) hHeld ?_ ?_
                                        rotate_left
                                        · rintro w' ⟨s0, s1, s2, s3, s4, s5⟩
                                          go_simp
                                          with_reducible rfl
                                        rotate_left
                                        · simp only [Act.put, List.setIfInBounds_toArray, List.set_cons_zero, List.set_cons_succ, i64_w, i32_w]
                                          rfl
                                        refine one_ (i := 6) (N := some 67) #[true, true, true, true, true, true, true, true, false] rfl rfl (one_of HT_.out (by kernel_rfl)) (by decide) (fun K hK => ?_)
                                        refine goes_ Try.func66 (by kernel_rfl) rfl #[.int .i64 a0, .agg #[.int .i64 a1_0, .int .i64 a1_1, .int .i64 a1_2], .agg #[.int .i64 ((rd_T34 t1093 x15_5).f0), .int .i64 ((rd_T34 t1093 x15_5).f1), .int .i64 ((rd_T34 t1093 x15_5).f2)]] (by rfl) rfl rfl (by (try simp only [List.map_toArray, List.map_cons, List.map_nil]); first | done | rfl | (simp only [List.length_drop, List.length_take]; rfl)) ?_
                                        with_reducible refine (spec_l02Distance.calls k5 a0 a1_0 a1_1 a1_2 ((rd_T34 t1093 x15_5).f0) ((rd_T34 t1093 x15_5).f1) ((rd_T34 t1093 x15_5).f2) t1098 _ A31.out).mono ?_
                                        rintro e w36 ⟨rfl, hb⟩
                                        have HS3_ := (hb.cell (World.block_lt_of_cell? _ _ (hHeld.2.2.2.1))).trans (hHeld.2.2.2.1)
                                        have HS4_ := (hb.cell (World.block_lt_of_cell? _ _ (hHeld.2.2.2.2.1))).trans (hHeld.2.2.2.2.1)
                                        have HS5_ := (hb.cell (World.block_lt_of_cell? _ _ (hHeld.2.2.2.2.2))).trans (hHeld.2.2.2.2.2)
                                        refine ⟨_, rfl, ?_⟩
                                        have n0_ := Aside0.mk (Kd.R_below (by (with_reducible repeat (first | apply Kd.R_alloc | apply Kd.R_drewN | apply Kd.R_drew)); exact HO_9.out) hb)
                                        have n1_ := Aside0.mk (Kd.R_below (by (with_reducible repeat (first | apply Kd.R_alloc | apply Kd.R_drewN | apply Kd.R_drew)); exact HO_11.out) hb)
                                        have n2_ := Aside0.mk (Kd.R_below (by (with_reducible repeat (first | apply Kd.R_alloc | apply Kd.R_drewN | apply Kd.R_drew)); exact HO_13.out) hb)
                                        have n3_ := Aside0.mk (blk_below (bkA BK1080) hb)
                                        have n4_ := Aside0.mk (below_step blA hb)
                                        clear HO_9
                                        clear HO_11
                                        clear HO_13
                                        clear BK1080
                                        clear HB
                                        have HO_9 := n0_
                                        have HO_11 := n1_
                                        have HO_13 := n2_
                                        have BK1080 := n3_
                                        have HB := n4_
                                        clear n0_ n1_ n2_ n3_ n4_
                                        (try clear hb)
                                        (try clear hb2)
                                        (try clear hk)
                                        (try clear hi)
                                        refine hK.out _ _ ⟨(blk_cell BK1080.out 0).trans rfl, (blk_cell BK1080.out 1).trans rfl, (blk_cell BK1080.out 2).trans rfl, HS3_, HS4_, HS5_⟩ (fun hHeld => ?_)
                                        clear hK K
                                        refine norm_ (a' := ?_) ?_ ?_
                                        rotate_left
                                        · show Act.put _ (some 67) _ = _
                                          simp only [Act.put, List.setIfInBounds_toArray, List.set_cons_zero, List.set_cons_succ, i64_w, i32_w]
                                          rfl
                                        refine pure_ (i := 8) (N := some 69) (v := ?_) (a' := ?_) #[true, true, true, true, true, true, true, true, true] rfl rfl (any_of HT_.out (by kernel_rfl)) (fun _ _ _ h => h) (Or.inl ⟨by rfl, ?_⟩) ?_ ?_
                                        rotate_left
                                        · intro w'
                                          go_simp
                                          with_reducible rfl
                                        rotate_left
                                        · simp only [Act.put, List.setIfInBounds_toArray, List.set_cons_zero, List.set_cons_succ, i64_w, i32_w]
                                          rfl
                                        refine done_ (done_of HT_.out (by kernel_rfl)) ?_
                                        have p1099 : 0 ≤ (x15_5 : Int) := of_decide_eq_true (by first | (with_reducible assumption) | assumption)
                                        have q1099 : x15_5 < (t1093.length : Int) := of_decide_eq_true (by first | (with_reducible assumption) | assumption)
                                        obtain ⟨ad1099, e1099, hx1099_0, hx1099_1, hx1099_2⟩ := at_T34 (Kd.R_reads' HO_13.out).2.2 x15_5 p1099 q1099
                                        obtain rfl : ad1097 = ad1099 := (by injection e1099)
                                        replace p1099 := eq_true p1099
                                        replace q1099 := eq_true q1099
                                        try go_wp2_with (first | ((with_reducible refine gate_builtin (b := .append) (xs := #[.tmp 70, .tmp 75]) rfl ?_); at_builtin; refine Kd.R_append k34 (w0 := w) w.heap.size rfl (.tmp 70) (.tmp 75) 56 34 (.agg #[(.int .i64 0), (.int .i64 0), (.int .i64 0)]) 24 rfl Try.underlying56 info34 rfl (by decide) (by omega) u11 x11_5 (⟨(rd_T34 t1093 x15_5).f0, (rd_T34 t1093 x15_5).f1, (rd_T34 t1093 x15_5).f2⟩ : S34) [.int .i64 ((rd_T34 t1093 x15_5).f0), .int .i64 ((rd_T34 t1093 x15_5).f1), .int .i64 ((rd_T34 t1093 x15_5).f2)] (fun k_ => some k_ ≠ (.slice (some ad1092) x9_3.length co27 : Value).ownBlock ∧ some k_ ≠ (.slice (some ad1097) t1093.length co34 : Value).ownBlock ∧ k_ ≠ gb1080) (fun _ => False) rfl rfl ?aP (fun _ hk => hk.elim) ?aF ?aO ?aB ?aS ?aL ?_; (case aP => exact k34_mkM _ _ _ (⟨(rd_T34 t1093 x15_5).f0, (rd_T34 t1093 x15_5).f1, (rd_T34 t1093 x15_5).f2⟩ : S34)); (case aB => exact blA); (case aF => exact (fun k_ hk => ⟨Kd.fresh' (Kd.R_lt (by (with_reducible repeat (first | apply Kd.R_alloc | apply Kd.R_drewN | apply Kd.R_drew)); exact HO_9.out)) k_ hk, Kd.fresh' (Kd.R_lt (by (with_reducible repeat (first | apply Kd.R_alloc | apply Kd.R_drewN | apply Kd.R_drew)); exact HO_13.out)) k_ hk, Kd.freshB (bkA BK1080) k_ hk⟩)); (case aO => exact (by (with_reducible repeat (first | apply Kd.R_alloc | apply Kd.R_drewN | apply Kd.R_drew)); exact HO_11.out)); (case aS => exact (below_size blA)); (case aL => have := LMc33.out; omega); intro v1101 w37 ho hb hg hat; rw [← Ny1100.out] at ho; have n0_ := Aside0.mk (Kd.R_after (ok := (fun k_ => some k_ ≠ (.slice (some ad1097) t1093.length co34 : Value).ownBlock ∧ k_ ≠ gb1080)) (by (with_reducible repeat (first | apply Kd.R_alloc | apply Kd.R_drewN | apply Kd.R_drew)); exact Kd.R_mono HO_9.out (fun _ hk => ⟨⟨hk.2.1, hk.2.2⟩, hk.1⟩)) hg hat); have n1_ := Aside0.mk (Kd.R_after (ok := (fun k_ => some k_ ≠ (.slice (some ad1092) x9_3.length co27 : Value).ownBlock ∧ k_ ≠ gb1080)) (by (with_reducible repeat (first | apply Kd.R_alloc | apply Kd.R_drewN | apply Kd.R_drew)); exact Kd.R_mono HO_13.out (fun _ hk => ⟨⟨hk.1, hk.2.2⟩, hk.2.1⟩)) hg hat); have n2_ := Aside0.mk (blk_grown (bkA BK1080) hg (Kd.R_away HO_11.out (fun _ hk => hk.2.2))); have n3_ := Aside0.mk (hb); have n4_ := Aside0.mk (ho); clear HO_9; clear HO_13; clear BK1080; clear HB; clear HO_11; have HO_9 := n0_; have HO_13 := n1_; have BK1080 := n2_; have HB := n3_; have HO1102 := n4_; clear n0_ n1_ n2_ n3_ n4_; clear ho hb hg hat))
                                        go_roundg k5
                                        case measure => have := HJ4.out; have := HJ13.out; have := HK3.out; have := HK4.out; have := HK5.out; omega
                                        case rel => exact ⟨(y1100), (wrap64 (x15_5 + 1)), (by first | rfl | (simp; done) | (simp [*]; done)), H', ⟨by have := HJ4.out; have := HJ13.out; have := HK3.out; have := HK4.out; have := HK5.out; omega⟩, ⟨by (with_reducible repeat (first | apply Kd.R_alloc | apply Kd.R_drewN | apply Kd.R_drew)); exact Kd.R_mono HO_9.out (fun _ hk => ⟨hk.2, ⟨hk.1.1, hk.1.2⟩⟩)⟩, ⟨by (with_reducible repeat (first | apply Kd.R_alloc | apply Kd.R_drewN | apply Kd.R_drew)); exact HO1102.out⟩, ⟨by (with_reducible repeat (first | apply Kd.R_alloc | apply Kd.R_drewN | apply Kd.R_drew)); exact Kd.R_mono HO_13.out (fun _ hk => ⟨hk.1.1, ⟨hk.2, hk.1.2⟩⟩)⟩, ⟨bkA BK1080⟩, ⟨blA⟩⟩
                                      · rw [if_neg c33] at H
                                        exact absurd H (by simp)
                                    · rw [if_neg c32] at H
                                      have c32b0 : (t1098 == x10_3) = false := beq_eq_false_iff_ne.mpr c32
                                      have c32b1 : (t1098 != x10_3) = true := bne_iff_ne.mpr c32
                                      have H' := Aside0.mk H
                                      clear H
                                      obtain ⟨Ao38, co38, eo38⟩ := Kd.R_slice HO_13.out
                                      subst eo38
                                      try go_wp2
                                      have n0_ := Aside0.mk (Kd.R_drew HO_9.out)
                                      have n1_ := Aside0.mk (Kd.R_drew HO_11.out)
                                      have n2_ := Aside0.mk (Kd.R_drew HO_13.out)
                                      have n3_ := Aside0.mk (blk_drew BK1080.out)
                                      have n4_ := Aside0.mk (below_drew1 HB.out)
                                      clear HO_9
                                      clear HO_11
                                      clear HO_13
                                      clear BK1080
                                      clear HB
                                      have HO_9 := n0_
                                      have HO_11 := n1_
                                      have HO_13 := n2_
                                      have BK1080 := n3_
                                      have HB := n4_
                                      clear n0_ n1_ n2_ n3_ n4_
                                      have p1097 : 0 ≤ (x15_5 : Int) := of_decide_eq_true (by first | (with_reducible assumption) | assumption)
                                      have q1097 : x15_5 < (t1093.length : Int) := of_decide_eq_true (by first | (with_reducible assumption) | assumption)
                                      obtain ⟨ad1097, e1097, hx1097_0, hx1097_1, hx1097_2⟩ := at_T34 (Kd.R_reads' HO_13.out).2.2 x15_5 p1097 q1097
                                      cases e1097
                                      replace p1097 := eq_true p1097
                                      replace q1097 := eq_true q1097
                                      refine start_ (n := 9) (S := fun w' => w'.cell? ⟨gb1080, 0, none⟩ = some (.int .i64 a1_0) ∧ w'.cell? ⟨gb1080, 1, none⟩ = some (.int .i64 a1_1) ∧ w'.cell? ⟨gb1080, 2, none⟩ = some (.int .i64 a1_2) ∧ w'.cell? (ad1097.add ((x15_5).toNat * 3)) = some (.int .i64 ((rd_T34 t1093 x15_5).f0)) ∧ w'.cell? ⟨(ad1097.add ((x15_5).toNat * 3)).block, (ad1097.add ((x15_5).toNat * 3)).off + 1, none⟩ = some (.int .i64 ((rd_T34 t1093 x15_5).f1)) ∧ w'.cell? ⟨(ad1097.add ((x15_5).toNat * 3)).block, (ad1097.add ((x15_5).toNat * 3)).off + 2, none⟩ = some (.int .i64 ((rd_T34 t1093 x15_5).f2))) (ds := []) #[false, false, false, false, false, false, false, false, false] (by kernel_rfl) rfl rfl ⟨(blk_cell BK1080.out 0).trans rfl, (blk_cell BK1080.out 1).trans rfl, (blk_cell BK1080.out 2).trans rfl, hx1097_0, hx1097_1, hx1097_2⟩ (fun hHeld => ?_); refine with_tabW spec_SphereAround.tab20 spec_SphereAround.bits20 (fun HT_ HW_ => ?_)
                                      generalize wr.drew = w39 at HO_9 HO_11 HO_13 BK1080 HB hx1097_0 hx1097_1 hx1097_2 hHeld ⊢
                                      refine pure_ (i := 0) (N := some 61) (v := ?_) (a' := ?_) #[true, false, false, false, false, false, false, false, false] rfl rfl (any_of HT_.out (by kernel_rfl)) (fun _ _ _ h => h) (Or.inl ⟨by rfl, ?_⟩) ?_ ?_
                                      rotate_left
                                      · intro w'
                                        go_simp
                                        with_reducible rfl
                                      rotate_left
                                      · simp only [Act.put, List.setIfInBounds_toArray, List.set_cons_zero, List.set_cons_succ, i64_w, i32_w]
                                        rfl
                                      refine pure_ (i := 2) (N := some 63) (v := ?_) (a' := ?_) #[true, false, true, false, false, false, false, false, false] rfl rfl (any_of HT_.out (by kernel_rfl)) (fun _ _ _ h => h) (Or.inl ⟨by rfl, ?_⟩) ?_ ?_
                                      rotate_left
                                      · intro w'
                                        go_simp
                                        with_reducible rfl
                                      rotate_left
                                      · simp only [Act.put, List.setIfInBounds_toArray, List.set_cons_zero, List.set_cons_succ, i64_w, i32_w]
                                        rfl
                                      refine pure_ (i := 3) (N := some 64) (v := ?_) (a' := ?_) #[true, false, true, true, false, false, false, false, false] rfl rfl (any_of HT_.out (by kernel_rfl)) (fun _ _ _ h => h) (Or.inl ⟨by rfl, ?_⟩) ?_ ?_
                                      rotate_left
                                      · intro w'
                                        go_simp
                                        with_reducible rfl
                                      rotate_left
                                      · simp only [Act.put, List.setIfInBounds_toArray, List.set_cons_zero, List.set_cons_succ, i64_w, i32_w]
                                        rfl
                                      refine pure_ (i := 4) (N := some 65) (v := ?_) (a' := ?_) #[true, false, true, true, true, false, false, false, false] rfl rfl (any_of HT_.out (by kernel_rfl)) (fun _ _ _ h => h) (Or.inl ⟨by rfl, ?_⟩) ?_ ?_
                                      rotate_left
                                      · intro w'
                                        go_simp
                                        with_reducible rfl
                                      rotate_left
                                      · simp only [Act.put, List.setIfInBounds_toArray, List.set_cons_zero, List.set_cons_succ, i64_w, i32_w]
                                        rfl
                                      refine pure_ (i := 7) (N := some 68) (v := ?_) (a' := ?_) #[true, false, true, true, true, false, false, true, false] rfl rfl (any_of HT_.out (by kernel_rfl)) (fun _ _ _ h => h) (Or.inl ⟨by rfl, ?_⟩) ?_ ?_
                                      rotate_left
                                      · intro w'
                                        go_simp
                                        with_reducible rfl
                                      rotate_left
                                      · simp only [Act.put, List.setIfInBounds_toArray, List.set_cons_zero, List.set_cons_succ, i64_w, i32_w]
                                        rfl
                                      refine take_ (i := 1) (N := some 62) (v := ?_) (a' := ?_) #[true, true, true, true, true, false, false, true, false] rfl rfl (take_ofW HT_.out HW_.out (by kernel_rfl)) (fun _ _ _ h => h) (Or.inl ⟨by rfl, ?_⟩) hHeld ?_ ?_
                                      rotate_left
                                      · rintro w' ⟨s0, s1, s2, s3, s4, s5⟩
                                        go_simp
                                        with_reducible rfl
                                      rotate_left
                                      · simp only [Act.put, List.setIfInBounds_toArray, List.set_cons_zero, List.set_cons_succ, i64_w, i32_w]
                                        rfl
                                      refine take_ (i := 5) (N := some 66) (v := ?_) (a' := ?_) #[true, true, true, true, true, true, false, true, false] rfl rfl (take_ofW HT_.out HW_.out (by kernel_rfl)) (fun _ _ _ h => h) (Or.inl ⟨by rfl, ?_⟩) hHeld ?_ ?_
                                      rotate_left
                                      · rintro w' ⟨s0, s1, s2, s3, s4, s5⟩
                                        go_simp
                                        with_reducible rfl
                                      rotate_left
                                      · simp only [Act.put, List.setIfInBounds_toArray, List.set_cons_zero, List.set_cons_succ, i64_w, i32_w]
                                        rfl
                                      refine one_ (i := 6) (N := some 67) #[true, true, true, true, true, true, true, true, false] rfl rfl (one_of HT_.out (by kernel_rfl)) (by decide) (fun K hK => ?_)
                                      refine goes_ Try.func66 (by kernel_rfl) rfl #[.int .i64 a0, .agg #[.int .i64 a1_0, .int .i64 a1_1, .int .i64 a1_2], .agg #[.int .i64 ((rd_T34 t1093 x15_5).f0), .int .i64 ((rd_T34 t1093 x15_5).f1), .int .i64 ((rd_T34 t1093 x15_5).f2)]] (by rfl) rfl rfl (by (try simp only [List.map_toArray, List.map_cons, List.map_nil]); first | done | rfl | (simp only [List.length_drop, List.length_take]; rfl)) ?_
                                      with_reducible refine (spec_l02Distance.calls k5 a0 a1_0 a1_1 a1_2 ((rd_T34 t1093 x15_5).f0) ((rd_T34 t1093 x15_5).f1) ((rd_T34 t1093 x15_5).f2) t1098 _ A31.out).mono ?_
                                      rintro e w40 ⟨rfl, hb⟩
                                      have HS3_ := (hb.cell (World.block_lt_of_cell? _ _ (hHeld.2.2.2.1))).trans (hHeld.2.2.2.1)
                                      have HS4_ := (hb.cell (World.block_lt_of_cell? _ _ (hHeld.2.2.2.2.1))).trans (hHeld.2.2.2.2.1)
                                      have HS5_ := (hb.cell (World.block_lt_of_cell? _ _ (hHeld.2.2.2.2.2))).trans (hHeld.2.2.2.2.2)
                                      refine ⟨_, rfl, ?_⟩
                                      have n0_ := Aside0.mk (Kd.R_below (by (with_reducible repeat (first | apply Kd.R_alloc | apply Kd.R_drewN | apply Kd.R_drew)); exact HO_9.out) hb)
                                      have n1_ := Aside0.mk (Kd.R_below (by (with_reducible repeat (first | apply Kd.R_alloc | apply Kd.R_drewN | apply Kd.R_drew)); exact HO_11.out) hb)
                                      have n2_ := Aside0.mk (Kd.R_below (by (with_reducible repeat (first | apply Kd.R_alloc | apply Kd.R_drewN | apply Kd.R_drew)); exact HO_13.out) hb)
                                      have n3_ := Aside0.mk (blk_below (bkA BK1080) hb)
                                      have n4_ := Aside0.mk (below_step blA hb)
                                      clear HO_9
                                      clear HO_11
                                      clear HO_13
                                      clear BK1080
                                      clear HB
                                      have HO_9 := n0_
                                      have HO_11 := n1_
                                      have HO_13 := n2_
                                      have BK1080 := n3_
                                      have HB := n4_
                                      clear n0_ n1_ n2_ n3_ n4_
                                      (try clear hb)
                                      (try clear hb2)
                                      (try clear hk)
                                      (try clear hi)
                                      refine hK.out _ _ ⟨(blk_cell BK1080.out 0).trans rfl, (blk_cell BK1080.out 1).trans rfl, (blk_cell BK1080.out 2).trans rfl, HS3_, HS4_, HS5_⟩ (fun hHeld => ?_)
                                      clear hK K
                                      refine norm_ (a' := ?_) ?_ ?_
                                      rotate_left
                                      · show Act.put _ (some 67) _ = _
                                        simp only [Act.put, List.setIfInBounds_toArray, List.set_cons_zero, List.set_cons_succ, i64_w, i32_w]
                                        rfl
                                      refine pure_ (i := 8) (N := some 69) (v := ?_) (a' := ?_) #[true, true, true, true, true, true, true, true, true] rfl rfl (any_of HT_.out (by kernel_rfl)) (fun _ _ _ h => h) (Or.inl ⟨by rfl, ?_⟩) ?_ ?_
                                      rotate_left
                                      · intro w'
                                        go_simp
                                        with_reducible rfl
                                      rotate_left
                                      · simp only [Act.put, List.setIfInBounds_toArray, List.set_cons_zero, List.set_cons_succ, i64_w, i32_w]
                                        rfl
                                      refine done_ (done_of HT_.out (by kernel_rfl)) ?_
                                      try go_wp2
                                      go_roundg k5
                                      case measure => have := HJ4.out; have := HJ13.out; have := HK3.out; have := HK4.out; have := HK5.out; omega
                                      case rel => exact ⟨(x11_5), (wrap64 (x15_5 + 1)), (by first | rfl | (simp; done) | (simp [*]; done)), H', ⟨by have := HJ4.out; have := HJ13.out; have := HK3.out; have := HK4.out; have := HK5.out; omega⟩, ⟨by (with_reducible repeat (first | apply Kd.R_alloc | apply Kd.R_drewN | apply Kd.R_drew)); exact HO_9.out⟩, ⟨by (with_reducible repeat (first | apply Kd.R_alloc | apply Kd.R_drewN | apply Kd.R_drew)); exact HO_11.out⟩, ⟨by (with_reducible repeat (first | apply Kd.R_alloc | apply Kd.R_drewN | apply Kd.R_drew)); exact HO_13.out⟩, ⟨bkA BK1080⟩, ⟨blA⟩⟩
                                  · rw [if_neg c30] at H
                                    exact absurd H (by simp)
                                · rw [if_neg c29] at H
                                  have c29b0 : decide (x15_5 < (t1093.length : Int)) = false := decide_eq_false c29
                                  clear c29
                                  have H' := Aside0.mk H
                                  clear H
                                  obtain ⟨Ao41, co41, eo41⟩ := Kd.R_slice HO_13.out
                                  subst eo41
                                  go_wp2
                                  go_roundg k5
                                  case measure => have := HJ4.out; have := HJ13.out; have := HK3.out; have := HK4.out; have := HK5.out; omega
                                  case rel => exact ⟨(x11_5), (wrap64 (x12_4 + 1)), (by first | rfl | (simp; done) | (simp [*]; done)), H', ⟨by have := HJ4.out; have := HJ13.out; have := HK3.out; have := HK4.out; have := HK5.out; omega⟩, ⟨by (with_reducible repeat (first | apply Kd.R_alloc | apply Kd.R_drewN | apply Kd.R_drew)); exact Kd.R_mono HO_9.out (fun _ hk => ⟨hk.1, hk.2.2⟩)⟩, ⟨by (with_reducible repeat (first | apply Kd.R_alloc | apply Kd.R_drewN | apply Kd.R_drew)); exact Kd.R_mono HO_11.out (fun _ hk => ⟨hk.1, hk.2.2⟩)⟩, ⟨bkA BK1080⟩, ⟨blA⟩⟩
                          · replace c26 := Bool.eq_false_iff.mpr c26
                            subst c26
                            have H1 : (some (([] : List (S34)), 3)) = some (r1, r2) := by rw [if_neg (show ¬ (false = true) by decide)] at H; exact H
                            clear H
                            have H := H1
                            clear H1
                            simp only [Option.some.injEq, Prod.mk.injEq] at H
                            obtain ⟨rfl, rfl⟩ := H
                            obtain ⟨Ao42, co42, eo42⟩ := Kd.R_slice HO_9.out
                            subst eo42
                            have p1092 : 0 ≤ (x12_4 : Int) := of_decide_eq_true (by first | (with_reducible assumption) | assumption)
                            have q1092 : x12_4 < (x9_3.length : Int) := of_decide_eq_true (by first | (with_reducible assumption) | assumption)
                            obtain ⟨ad1092, e1092, hx1092_0, hx1092_1, hx1092_2⟩ := at_T34 (Kd.R_reads' HO_9.out).2.2 x12_4 p1092 q1092
                            cases e1092
                            replace p1092 := eq_true p1092
                            replace q1092 := eq_true q1092
                            go_wp2_with (first | ((with_reducible refine gate_callee (f := 152) rfl ?_); refine goesL_ (some 50) rfl rfl Try.func152 (by kernel_rfl) rfl #[.int .i64 a0, .agg #[.int .i64 ((rd_T34 x9_3 x12_4).f0), .int .i64 ((rd_T34 x9_3 x12_4).f1), .int .i64 ((rd_T34 x9_3 x12_4).f2)]] rfl (by (try simp only [List.map_toArray, List.map_cons, List.map_nil]); first | done | rfl | (simp only [List.length_drop, List.length_take]; rfl)) ?_; (with_reducible refine (spec_l02Near.calls k4 a0 ((rd_T34 x9_3 x12_4).f0) ((rd_T34 x9_3 x12_4).f1) ((rd_T34 x9_3 x12_4).f2) t1093 false _ A25.out).mono ?_); rintro e w43 ⟨v1094, rfl, ho0, hb⟩; refine ⟨_, rfl, ?_⟩; have n0_ := Aside0.mk (Kd.R_elder' (by (with_reducible repeat (first | apply Kd.R_alloc | apply Kd.R_drewN | apply Kd.R_drew)); exact HO_9.out) (Kd.R_base ho0) hb); have n1_ := Aside0.mk (Kd.R_elder' (by (with_reducible repeat (first | apply Kd.R_alloc | apply Kd.R_drewN | apply Kd.R_drew)); exact HO_11.out) (Kd.R_base ho0) hb); have n2_ := Aside0.mk (Kd.R_lower (Kd.R_newB (Kd.R_new' (Kd.R_new' ho0 (Kd.R_lt (by (with_reducible repeat (first | apply Kd.R_alloc | apply Kd.R_drewN | apply Kd.R_drew)); exact HO_9.out))) (Kd.R_lt (by (with_reducible repeat (first | apply Kd.R_alloc | apply Kd.R_drewN | apply Kd.R_drew)); exact HO_11.out))) (bkA BK1080)) (below_size blA)); have n3_ := Aside0.mk (blk_below (bkA BK1080) hb); have n4_ := Aside0.mk (below_step blA hb); clear HO_9; clear HO_11; clear BK1080; clear HB; have HO_9 := n0_; have HO_11 := n1_; have HO1095 := n2_; have BK1080 := n3_; have HB := n4_; clear n0_ n1_ n2_ n3_ n4_; (try clear hb); (try clear hb2); (try clear hk); (try clear hi); (try clear ho0)))
                            go_ret2
                            exact ⟨_, by first | rfl | (simp [errW_none, errW_some] <;> rfl) | (simp [*, errW_none, errW_some] <;> rfl), by first | exact Kd.R_nil _ _ _ _ _ | exact Kd.N_nil _ _ _ _ _ | exact Kd.V_nil _ _ _ _ _ | exact Kd.Q_nil _ _ _ _ _ | exact Kd.S_nil _ _ _ _ _, blA⟩
                        · rw [if_neg c24] at H
                          exact absurd H (by simp)
                      · rw [if_neg c23] at H
                        have c23b0 : decide (x12_4 < (x9_3.length : Int)) = false := decide_eq_false c23
                        clear c23
                        have H' := Aside0.mk H
                        clear H
                        obtain ⟨Ao44, co44, eo44⟩ := Kd.R_slice HO_9.out
                        subst eo44
                        go_wp2
                        go_roundg k4
                        case measure => have := HJ4.out; have := HJ13.out; have := HK3.out; have := HK4.out; omega
                        case rel => exact ⟨(x11_4), (wrap64 (x10_3 + 1)), (by first | rfl | (simp; done) | (simp [*]; done)), H', ⟨by have := HJ4.out; have := HJ13.out; have := HK3.out; have := HK4.out; omega⟩, ⟨by (with_reducible repeat (first | apply Kd.R_alloc | apply Kd.R_drewN | apply Kd.R_drew)); exact Kd.R_mono HO_11.out (fun _ hk => hk.2)⟩, ⟨bkA BK1080⟩, ⟨blA⟩⟩
                · rw [if_neg c20] at H
                  have c20b0 : decide (x10_3 ≤ a2) = false := decide_eq_false c20
                  clear c20
                  simp only [Option.some.injEq, Prod.mk.injEq] at H
                  obtain ⟨rfl, rfl⟩ := H
                  go_wp2
                  go_ret2
                  exact ⟨_, by first | rfl | (simp [errW_none, errW_some] <;> rfl) | (simp [*, errW_none, errW_some] <;> rfl), by (with_reducible repeat (first | apply Kd.R_alloc | apply Kd.R_drewN | apply Kd.R_drew)); exact Kd.R_mono HO_9.out (fun _ hk => trivial), blA⟩
          · rw [if_neg c16] at H
            have c16b0 : (x8_13 == 0) = false := beq_eq_false_iff_ne.mpr c16
            have c16b1 : (x8_13 != 0) = true := bne_iff_ne.mpr c16
            simp only [Option.some.injEq, Prod.mk.injEq] at H
            obtain ⟨rfl, rfl⟩ := H
            go_wp2
            go_ret2
            exact ⟨_, by first | rfl | (simp [errW_none, errW_some] <;> rfl) | (simp [*, errW_none, errW_some] <;> rfl), by first | exact Kd.R_nil _ _ _ _ _ | exact Kd.N_nil _ _ _ _ _ | exact Kd.V_nil _ _ _ _ _ | exact Kd.Q_nil _ _ _ _ _ | exact Kd.S_nil _ _ _ _ _, blA⟩
end Go.Proofs.Ytfkglijnbgijbaa.PAll
