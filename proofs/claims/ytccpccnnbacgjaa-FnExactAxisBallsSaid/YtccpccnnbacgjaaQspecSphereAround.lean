-- turned for this claim out of the kit's print: the same functions, packed anew
import Derived.Test.YtccpccnnbacgjaaQx
import Derived.Test.YtccpccnnbacgjaaQLtoBall
import Derived.Test.YtccpccnnbacgjaaQimplneighbour
import Derived.Test.YtccpccnnbacgjaaQspecl02Join
import Derived.Test.YtccpccnnbacgjaaQspecl02Near
namespace Go.Proofs.Ytccpccnnbacgjaa.PAll
open Go.RowKit Go.Proofs.YtccpccnnbacgjaaW.PrintWords Go.Proofs.YtccpccnnbacgjaaW.PrintLast Go.Proofs.YtccpccnnbacgjaaW.PrintMore
attribute [local go_sem] Go.Proofs.Ytccpccnnbacgjaa.Aux.setCell_drewN Go.Proofs.Ytccpccnnbacgjaa.Aux.isSome_setCell max2_int min2_int max_two min_two max_three min_three max_four min_four   -- for this text's walks alone
set_option linter.unusedVariables false
set_option linter.unusedSimpArgs false
/-! ### spec_SphereAround: function 61 -/
mutual
def spec_SphereAround.j0 : Nat → Int → Int → Int → Bool → Int → Int → Int → Option ((List (S39)) × Int)
 | 0, _, _, _, _, _, _, _ => none
 | k + 1, x0, x2, x8, x26, x194000, x194001, x194002 => if x26 = true then (spec_SphereAround.j1 k x0 x2 2 x194000 x194001 x194002) else (spec_SphereAround.j1 k x0 x2 x8 x194000 x194001 x194002)
def spec_SphereAround.j1 : Nat → Int → Int → Int → Int → Int → Int → Option ((List (S39)) × Int)
 | 0, _, _, _, _, _, _ => none
 | k + 1, x0, x2, x8, x194000, x194001, x194002 => if x8 = 0 then (spec_SphereAround.l0 k x0 x2 (([(⟨x194000, x194001, x194002⟩ : S39)] : List (S39))) 1 x194000 x194001 x194002) else (some (([] : List (S39)), x8))
def spec_SphereAround.l0 : Nat → Int → Int → List (S39) → Int → Int → Int → Int → Option ((List (S39)) × Int)
 | 0, _, _, _, _, _, _, _ => none
 | k + 1, x0, x2, x9, x10, x194000, x194001, x194002 => if x10 ≤ x2 then (spec_SphereAround.l1 k x0 x2 x9 x10 (([] : List (S39))) 0 x194000 x194001 x194002) else (some (x9, 0))
def spec_SphereAround.l1 : Nat → Int → Int → List (S39) → Int → List (S39) → Int → Int → Int → Int → Option ((List (S39)) × Int)
 | 0, _, _, _, _, _, _, _, _, _ => none
 | k + 1, x0, x2, x9, x10, x11, x12, x194000, x194001, x194002 => if x12 < (x9.length : Int) then (if 0 ≤ x12 then ((spec_l02Near.f k x0 ((rd_T39 x9 x12).f0) ((rd_T39 x9 x12).f1) ((rd_T39 x9 x12).f2)).bind fun bt206 => (if bt206.2 = true then (spec_SphereAround.l2 k x0 x2 x9 x10 x11 x12 bt206.1 0 x194000 x194001 x194002) else (some (([] : List (S39)), 3)))) else (none)) else (spec_SphereAround.l0 k x0 x2 x11 (wrap64 (x10 + 1)) x194000 x194001 x194002)
def spec_SphereAround.l2 : Nat → Int → Int → List (S39) → Int → List (S39) → Int → List (S39) → Int → Int → Int → Int → Option ((List (S39)) × Int)
 | 0, _, _, _, _, _, _, _, _, _, _, _ => none
 | k + 1, x0, x2, x9, x10, x11, x12, x13, x15, x194000, x194001, x194002 => if x15 < (x13.length : Int) then (if 0 ≤ x15 then ((spec_l02Distance.f k x0 x194000 x194001 x194002 ((rd_T39 x13 x15).f0) ((rd_T39 x13 x15).f1) ((rd_T39 x13 x15).f2)).bind fun t211 => (if t211 = x10 then (if x11.length < 5864062014805 then (spec_SphereAround.l2 k x0 x2 x9 x10 (x11 ++ [(⟨(rd_T39 x13 x15).f0, (rd_T39 x13 x15).f1, (rd_T39 x13 x15).f2⟩ : S39)]) x12 x13 (wrap64 (x15 + 1)) x194000 x194001 x194002) else (none)) else (spec_SphereAround.l2 k x0 x2 x9 x10 x11 x12 x13 (wrap64 (x15 + 1)) x194000 x194001 x194002))) else (none)) else (spec_SphereAround.l1 k x0 x2 x9 x10 x11 (wrap64 (x12 + 1)) x194000 x194001 x194002)
end
def spec_SphereAround.f (k : Nat) (a0 : Int) (a1_0 : Int) (a1_1 : Int) (a1_2 : Int) (a2 : Int) : Option ((List (S39)) × Int) := (spec_l01Code.f k a0 (([(⟨a1_0, a1_1, a1_2⟩ : S39)] : List (S39)))).bind fun t197 => (if t197 = 0 then ((spec_l01In.f a2 0 4).bind fun t198 => (spec_SphereAround.j0 k a0 a2 t197 (!t198) a1_0 a1_1 a1_2)) else (spec_SphereAround.j0 k a0 a2 t197 false a1_0 a1_1 a1_2))
theorem spec_SphereAround.mono_l : ∀ k, (∀ y0 y1 y2 y3 y4 y5 y6, LeO (spec_SphereAround.j0 k y0 y1 y2 y3 y4 y5 y6) (spec_SphereAround.j0 (k + 1) y0 y1 y2 y3 y4 y5 y6)) ∧ (∀ y0 y1 y2 y3 y4 y5, LeO (spec_SphereAround.j1 k y0 y1 y2 y3 y4 y5) (spec_SphereAround.j1 (k + 1) y0 y1 y2 y3 y4 y5)) ∧ (∀ y0 y1 y2 y3 y4 y5 y6, LeO (spec_SphereAround.l0 k y0 y1 y2 y3 y4 y5 y6) (spec_SphereAround.l0 (k + 1) y0 y1 y2 y3 y4 y5 y6)) ∧ (∀ y0 y1 y2 y3 y4 y5 y6 y7 y8, LeO (spec_SphereAround.l1 k y0 y1 y2 y3 y4 y5 y6 y7 y8) (spec_SphereAround.l1 (k + 1) y0 y1 y2 y3 y4 y5 y6 y7 y8)) ∧ (∀ y0 y1 y2 y3 y4 y5 y6 y7 y8 y9 y10, LeO (spec_SphereAround.l2 k y0 y1 y2 y3 y4 y5 y6 y7 y8 y9 y10) (spec_SphereAround.l2 (k + 1) y0 y1 y2 y3 y4 y5 y6 y7 y8 y9 y10))
 | 0 => ⟨fun _ _ _ _ _ _ _ r h => by simp [spec_SphereAround.j0] at h, fun _ _ _ _ _ _ r h => by simp [spec_SphereAround.j1] at h, fun _ _ _ _ _ _ _ r h => by simp [spec_SphereAround.l0] at h, fun _ _ _ _ _ _ _ _ _ r h => by simp [spec_SphereAround.l1] at h, fun _ _ _ _ _ _ _ _ _ _ _ r h => by simp [spec_SphereAround.l2] at h⟩
 | k + 1 => by
  obtain ⟨ih0, ih1, ih2, ih3, ih4⟩ := spec_SphereAround.mono_l k
  refine ⟨?_, ?_, ?_, ?_, ?_⟩
  ·
   intro y0 y1 y2 y3 y4 y5 y6
   unfold spec_SphereAround.j0
   repeat' first
   | (with_reducible exact ih0 _ _ _ _ _ _ _)
   | (with_reducible exact ih1 _ _ _ _ _ _)
   | (with_reducible exact ih2 _ _ _ _ _ _ _)
   | (with_reducible exact ih3 _ _ _ _ _ _ _ _ _)
   | (with_reducible exact ih4 _ _ _ _ _ _ _ _ _ _ _)
   | (with_reducible exact spec_l01Code.mono _ _ _)
   | (with_reducible exact spec_l02Distance.mono _ _ _ _ _ _ _ _)
   | (with_reducible exact spec_l02Near.mono _ _ _ _ _)
   | (with_reducible exact LeO.refl _)
   | (with_reducible exact LeO.none _)
   | (with_reducible refine LeO.ite ?_ ?_)
   | (with_reducible refine LeO.bind ?_ (fun _ => ?_))
  ·
   intro y0 y1 y2 y3 y4 y5
   unfold spec_SphereAround.j1
   repeat' first
   | (with_reducible exact ih0 _ _ _ _ _ _ _)
   | (with_reducible exact ih1 _ _ _ _ _ _)
   | (with_reducible exact ih2 _ _ _ _ _ _ _)
   | (with_reducible exact ih3 _ _ _ _ _ _ _ _ _)
   | (with_reducible exact ih4 _ _ _ _ _ _ _ _ _ _ _)
   | (with_reducible exact spec_l01Code.mono _ _ _)
   | (with_reducible exact spec_l02Distance.mono _ _ _ _ _ _ _ _)
   | (with_reducible exact spec_l02Near.mono _ _ _ _ _)
   | (with_reducible exact LeO.refl _)
   | (with_reducible exact LeO.none _)
   | (with_reducible refine LeO.ite ?_ ?_)
   | (with_reducible refine LeO.bind ?_ (fun _ => ?_))
  ·
   intro y0 y1 y2 y3 y4 y5 y6
   unfold spec_SphereAround.l0
   repeat' first
   | (with_reducible exact ih0 _ _ _ _ _ _ _)
   | (with_reducible exact ih1 _ _ _ _ _ _)
   | (with_reducible exact ih2 _ _ _ _ _ _ _)
   | (with_reducible exact ih3 _ _ _ _ _ _ _ _ _)
   | (with_reducible exact ih4 _ _ _ _ _ _ _ _ _ _ _)
   | (with_reducible exact spec_l01Code.mono _ _ _)
   | (with_reducible exact spec_l02Distance.mono _ _ _ _ _ _ _ _)
   | (with_reducible exact spec_l02Near.mono _ _ _ _ _)
   | (with_reducible exact LeO.refl _)
   | (with_reducible exact LeO.none _)
   | (with_reducible refine LeO.ite ?_ ?_)
   | (with_reducible refine LeO.bind ?_ (fun _ => ?_))
  ·
   intro y0 y1 y2 y3 y4 y5 y6 y7 y8
   unfold spec_SphereAround.l1
   repeat' first
   | (with_reducible exact ih0 _ _ _ _ _ _ _)
   | (with_reducible exact ih1 _ _ _ _ _ _)
   | (with_reducible exact ih2 _ _ _ _ _ _ _)
   | (with_reducible exact ih3 _ _ _ _ _ _ _ _ _)
   | (with_reducible exact ih4 _ _ _ _ _ _ _ _ _ _ _)
   | (with_reducible exact spec_l01Code.mono _ _ _)
   | (with_reducible exact spec_l02Distance.mono _ _ _ _ _ _ _ _)
   | (with_reducible exact spec_l02Near.mono _ _ _ _ _)
   | (with_reducible exact LeO.refl _)
   | (with_reducible exact LeO.none _)
   | (with_reducible refine LeO.ite ?_ ?_)
   | (with_reducible refine LeO.bind ?_ (fun _ => ?_))
  ·
   intro y0 y1 y2 y3 y4 y5 y6 y7 y8 y9 y10
   unfold spec_SphereAround.l2
   repeat' first
   | (with_reducible exact ih0 _ _ _ _ _ _ _)
   | (with_reducible exact ih1 _ _ _ _ _ _)
   | (with_reducible exact ih2 _ _ _ _ _ _ _)
   | (with_reducible exact ih3 _ _ _ _ _ _ _ _ _)
   | (with_reducible exact ih4 _ _ _ _ _ _ _ _ _ _ _)
   | (with_reducible exact spec_l01Code.mono _ _ _)
   | (with_reducible exact spec_l02Distance.mono _ _ _ _ _ _ _ _)
   | (with_reducible exact spec_l02Near.mono _ _ _ _ _)
   | (with_reducible exact LeO.refl _)
   | (with_reducible exact LeO.none _)
   | (with_reducible refine LeO.ite ?_ ?_)
   | (with_reducible refine LeO.bind ?_ (fun _ => ?_))
theorem spec_SphereAround.mono : ∀ a0 a1 a2 a3 a4 k, LeO (spec_SphereAround.f k a0 a1 a2 a3 a4) (spec_SphereAround.f (k + 1) a0 a1 a2 a3 a4) := by
 intro a0 a1 a2 a3 a4 k
 obtain ⟨ih0, ih1, ih2, ih3, ih4⟩ := spec_SphereAround.mono_l k
 unfold spec_SphereAround.f
 repeat' first
   | (with_reducible exact ih0 _ _ _ _ _ _ _)
   | (with_reducible exact ih1 _ _ _ _ _ _)
   | (with_reducible exact ih2 _ _ _ _ _ _ _)
   | (with_reducible exact ih3 _ _ _ _ _ _ _ _ _)
   | (with_reducible exact ih4 _ _ _ _ _ _ _ _ _ _ _)
   | (with_reducible exact spec_l01Code.mono _ _ _)
   | (with_reducible exact spec_l02Distance.mono _ _ _ _ _ _ _ _)
   | (with_reducible exact spec_l02Near.mono _ _ _ _ _)
   | (with_reducible exact LeO.refl _)
   | (with_reducible exact LeO.none _)
   | (with_reducible refine LeO.ite ?_ ?_)
   | (with_reducible refine LeO.bind ?_ (fun _ => ?_))
def spec_SphereAround.T20 : Bool × List (List Nat × List Nat) := (true, [([], []), ([], []), ([], []), ([], []), ([2, 3], [2, 3]), ([4], [4]), ([0, 1, 5], [0, 1, 5]), ([], []), ([6, 7], [6, 7])])
def spec_SphereAround.B20 : List Nat := [0, 0, 0, 0, 12, 28, 63, 0, 255]
theorem spec_SphereAround.tab20 : rtab .any (opsOf Try.f61 20) = spec_SphereAround.T20 := by kernel_rfl
theorem spec_SphereAround.bits20 : waitsOk spec_SphereAround.T20.2 spec_SphereAround.B20 = true := by kernel_rfl
set_option maxHeartbeats 8000000 in
set_option maxRecDepth 100000 in
theorem spec_SphereAround.calls (k : Nat) (a0 : Int) (a1_0 : Int) (a1_1 : Int) (a1_2 : Int) (a2 : Int) (r1 : List (S39)) (r2 : Int) (w : World) (h : spec_SphereAround.f k a0 a1_0 a1_1 a1_2 a2 = some (r1, r2)) :
  Calls Try.prog 61 #[.int .i64 a0, .agg #[.int .i64 a1_0, .int .i64 a1_1, .int .i64 a1_2], .int .i64 a2] w fun e w' => ∃ v0_ : Value, e = .returned (.tuple #[v0_, .int .i64 r2]) ∧ Kd.R k39 39 w' w.heap.size (fun _ => True) v0_ r1 ∧ Below w.heap.size w w' := by
 have hu39 := Try.underlying39
 have HB := Aside0.mk (Below.refl w.heap.size w)
 have H := h
 unfold spec_SphereAround.f at H
 clear h
 obtain ⟨y194, hy194⟩ : ∃ y_ : List (S39), y_ = (([(⟨a1_0, a1_1, a1_2⟩ : S39)] : List (S39))) := ⟨_, rfl⟩
 replace H : ((spec_l01Code.f k a0 y194).bind fun t197 => (if t197 = 0 then ((spec_l01In.f a2 0 4).bind fun t198 => (spec_SphereAround.j0 k a0 a2 t197 (!t198) a1_0 a1_1 a1_2)) else (spec_SphereAround.j0 k a0 a2 t197 false a1_0 a1_1 a1_2))) = some (r1, r2) := by first | (rw [hy194]; with_reducible exact H) | (have H2_ := (Option.bind_some _ _).symm.trans H; rw [hy194]; with_reducible exact H2_) | (have H2_ := (Option.bind_some _ _).symm.trans H; with_reducible exact H2_) | with_reducible exact H | (rw [hy194]; exact H) | exact H
 have Ny194 := Aside0.mk hy194
 clear hy194
 replace H := bS H
 obtain ⟨t197, A4, H⟩ := H
 try dsimp only at H
 have HC5 := Aside0.mk H
 clear H
 go_enter Try.func61, Try.ntmps61
 go_upto_region 2 with (first | ((with_reducible refine gate_dst (N := 4) rfl ?_); refine box_event ?hg (N := 4) ?hd (cs := #[.int .i64 a1_0, .int .i64 a1_1, .int .i64 a1_2]) (t := 39) ?hr ?_; (case hd => rfl); (case hg => rfl); (case hr => first | (go_simp; done) | (go_simp; rfl)); intro gb193 hg w6 hbox hb; have n0_ := lB hb; have n1_ := Aside0.mk (hbox); have n2_ := sA hg; have n3_ := sA hg; clear HB; have HB := n0_; have BK193 := n1_; have GW193 := n2_; have GE193 := n3_; clear n0_ n1_ n2_ n3_; clear hb hbox hg; have hcz7_0 : w6.cell? ⟨gb193, 0, none⟩ = some (.int .i64 a1_0) := cA BK193 0; have hcz7_1 : w6.cell? ⟨gb193, 1, none⟩ = some (.int .i64 a1_1) := cA BK193 1; have hcz7_2 : w6.cell? ⟨gb193, 2, none⟩ = some (.int .i64 a1_2) := cA BK193 2; have hfz7_0 := blk_frozen BK193.out 0; have hfz7_1 := blk_frozen BK193.out 1; have hfz7_2 := blk_frozen BK193.out 2) | ((with_reducible refine gate_dst (N := 18) rfl ?_); refine Kd.R_lit k39 _ 39 ?hg (N := 18) ?hd (xs := ([(⟨a1_0, a1_1, a1_2⟩ : S39)] : List (S39))) (inner := [.int .i64 a1_0, .int .i64 a1_1, .int .i64 a1_2]) (ok := fun _ => True) (okp := fun _ => True) ?hr ?hp (fun _ hk => hk) trivial (Below.refl _ _) (Nat.le_refl _) (by simp) ?_; (case hd => rfl); (case hg => rfl); (case hr => first | (go_simp; done) | (go_simp; rfl)); (case hp => exact (Reps.c3 (show Kd.M k39 _ _ _ (⟨a1_0, a1_1, a1_2⟩ : S39) [.int .i64 a1_0, .int .i64 a1_1, .int .i64 a1_2] from (k39_mkM _ _ _ (⟨a1_0, a1_1, a1_2⟩ : S39) )) (Reps.none _ _))); intro v195 w8 ho9 hb hg_ hnew_; clear hg_ hnew_; (first | rw [← Ny194.out] at ho9 | (simp only [Int.reduceToNat] at ho9; rw [← Ny194.out] at ho9)); have n0_ := Aside0.mk (Kd.R_lower (Kd.R_newB ho9 (bkA BK193)) (below_size blA)); have n1_ := kB BK193 hb; have n2_ := lB hb; clear BK193; clear HB; have HO196 := n0_; have BK193 := n1_; have HB := n2_; clear n0_ n1_ n2_; clear hb ho9; obtain ⟨Ao10, co10, eo10⟩ := Kd.R_slice HO196.out; subst eo10) | ((with_reducible refine gate_callee (f := 100) rfl ?_); refine goesL_ (some 19) rfl rfl Try.func100 (by kernel_rfl) rfl #[.int .i64 a0, .slice Ao10 y194.length co10] rfl hA ?_; (with_reducible refine (spec_l01Code.calls k a0 _ _ y194 t197 _ ?side1 ?side2 A4.out).mono ?_); (case side1 => repeat (first | exact (Kd.R_reads' HO196.out).2.2 | (with_reducible refine Kd.C_alloc ?_ _) | (with_reducible refine Kd.C_drewN ?_ _) | (with_reducible refine Kd.C_drew ?_))); (case side2 => exact (Kd.R_reads' HO196.out).2.1); rintro e w11 ⟨rfl, hb⟩; refine ⟨_, rfl, ?_⟩; have n0_ := Aside0.mk (Kd.R_below (rA HO196) hb); have n1_ := kB BK193 hb; have n2_ := lB hb; clear HO196; clear BK193; clear HB; have HO196 := n0_; have BK193 := n1_; have HB := n2_; clear n0_ n1_ n2_; (try clear hb); (try clear hb2); (try clear hk); (try clear hi)))
 (try simp only [Act.put, List.setIfInBounds_toArray, List.set_cons_zero, List.set_cons_succ])
 go_cut [26] (fun v26 wc => ∃ (kq : Nat) (x26_4 : Bool), v26 = .bool x26_4 ∧ Aside0 (spec_SphereAround.j0 kq a0 a2 t197 x26_4 a1_0 a1_1 a1_2 = some (r1, r2)) ∧ Aside0 (kq ≤ k) ∧ Aside0 (wc.heap[gb193]? = some (.cells #[.int .i64 a1_0, .int .i64 a1_1, .int .i64 a1_2] 39 (0, 0))) ∧ Aside0 (Below w.heap.size w wc))
 case first =>
  have H := HC5.out
  clear HC5
  by_cases c12 : t197 = 0
  ·
   rw [if_pos c12] at H
   have c12b0 : (t197 == 0) = true := beq_iff_eq.mpr c12
   have c12b1 : (t197 != 0) = false := bne_eq_false_iff_eq.mpr c12
   clear c12
   (first | rw [c12b0] | (simp only [i64_w, i32_w]; rw [c12b0]) | skip)
   replace H := bS H
   obtain ⟨t198, A13, H⟩ := H
   try dsimp only at H
   have H' := Aside0.mk H
   clear H
   go_wp2_with (first | (go_at_call 71; (with_reducible refine (spec_l01In.calls a2 0 4 t198 _ A13.out).mono ?_); rintro e w' ⟨rfl, ⟨nd, rfl⟩⟩))
   go_meet
   case rel => exact ⟨_, (!t198), hB, H', ⟨by first | omega | exact Nat.le_refl _⟩, ⟨bkA BK193⟩, ⟨blA⟩⟩
  ·
   rw [if_neg c12] at H
   have c12b0 : (t197 == 0) = false := beq_eq_false_iff_ne.mpr c12
   have c12b1 : (t197 != 0) = true := bne_iff_ne.mpr c12
   (first | rw [c12b0] | (simp only [i64_w, i32_w]; rw [c12b0]) | skip)
   have H' := Aside0.mk H
   clear H
   go_wp2
   go_meet
   case rel => exact ⟨_, (false), hB, H', ⟨by first | omega | exact Nat.le_refl _⟩, ⟨bkA BK193⟩, ⟨blA⟩⟩
 case rest =>
  clear HC5
  try clear c3
  try clear c12
  try clear c12b0
  try clear c12b1
  try clear hcz7_0
  try clear hcz7_1
  try clear hcz7_2
  try clear hfz7_0
  try clear hfz7_1
  try clear hfz7_2
  obtain ⟨kq, x26_4, rfl, HA, HJ4, BK193, HB⟩ := hcut
  cases kq with
  | zero => exact absurd HA.out (by simp [spec_SphereAround.j0])
  | succ kj4 =>
   have H := HA.out
   clear HA
   simp only [spec_SphereAround.j0] at H
   have HC14 := Aside0.mk H
   clear H
   go_upto_if 26 with (fail)
   go_cut [8] (fun v8 wc => ∃ (kq : Nat) (x8_13 : Int), v8 = .int .i64 x8_13 ∧ Aside0 (spec_SphereAround.j1 kq a0 a2 x8_13 a1_0 a1_1 a1_2 = some (r1, r2)) ∧ Aside0 (kq ≤ kj4) ∧ Aside0 (wc.heap[gb193]? = some (.cells #[.int .i64 a1_0, .int .i64 a1_1, .int .i64 a1_2] 39 (0, 0))) ∧ Aside0 (Below w.heap.size w wc))
   case first =>
    have H := HC14.out
    clear HC14
    by_cases c15 : x26_4 = true
    ·
     subst c15
     rw [if_pos rfl] at H
     try dsimp only at H
     have H' := Aside0.mk H
     clear H
     go_wp2
     go_meet
     case rel => exact ⟨_, (2), hB, H', ⟨by have := HJ4.out; first | omega | exact Nat.le_refl _⟩, ⟨bkA BK193⟩, ⟨blA⟩⟩
    ·
     replace c15 := Bool.eq_false_iff.mpr c15
     subst c15
     rw [if_neg (show ¬ (false = true) by decide)] at H
     try dsimp only at H
     have H' := Aside0.mk H
     clear H
     go_wp2
     go_meet
     case rel => exact ⟨_, (t197), hB, H', ⟨by have := HJ4.out; first | omega | exact Nat.le_refl _⟩, ⟨bkA BK193⟩, ⟨blA⟩⟩
   case rest =>
    clear HC14
    try clear c3
    try clear c12
    try clear c12b0
    try clear c12b1
    try clear c15
    try clear hcz7_0
    try clear hcz7_1
    try clear hcz7_2
    try clear hfz7_0
    try clear hfz7_1
    try clear hfz7_2
    obtain ⟨kq, x8_13, rfl, HA, HJ13, BK193, HB⟩ := hcut
    cases kq with
    | zero => exact absurd HA.out (by simp [spec_SphereAround.j1])
    | succ kj13 =>
     have H := HA.out
     clear HA
     simp only [spec_SphereAround.j1] at H
     by_cases c16 : x8_13 = 0
     ·
      rw [if_pos c16] at H
      have c16b0 : (x8_13 == 0) = true := beq_iff_eq.mpr c16
      have c16b1 : (x8_13 != 0) = false := bne_eq_false_iff_eq.mpr c16
      clear c16
      obtain ⟨y199, hy199⟩ : ∃ y_ : List (S39), y_ = (([(⟨a1_0, a1_1, a1_2⟩ : S39)] : List (S39))) := ⟨_, rfl⟩
      replace H : (spec_SphereAround.l0 kj13 a0 a2 y199 1 a1_0 a1_1 a1_2) = some (r1, r2) := by first | (rw [hy199]; with_reducible exact H) | (have H2_ := (Option.bind_some _ _).symm.trans H; rw [hy199]; with_reducible exact H2_) | (have H2_ := (Option.bind_some _ _).symm.trans H; with_reducible exact H2_) | with_reducible exact H | (rw [hy199]; exact H) | exact H
      have Ny199 := Aside0.mk hy199
      clear hy199
      have H' := Aside0.mk H
      clear H
      have hcz17_0 : wc.cell? ⟨gb193, 0, none⟩ = some (.int .i64 a1_0) := cA BK193 0
      have hcz17_1 : wc.cell? ⟨gb193, 1, none⟩ = some (.int .i64 a1_1) := cA BK193 1
      have hcz17_2 : wc.cell? ⟨gb193, 2, none⟩ = some (.int .i64 a1_2) := cA BK193 2
      have hfz17_0 := blk_frozen BK193.out 0
      have hfz17_1 := blk_frozen BK193.out 1
      have hfz17_2 := blk_frozen BK193.out 2
      go_wp2_with (first | ((with_reducible refine gate_dst (N := 31) rfl ?_); refine Kd.R_lit k39 _ 39 ?hg (N := 31) ?hd (xs := ([(⟨a1_0, a1_1, a1_2⟩ : S39)] : List (S39))) (inner := [.int .i64 a1_0, .int .i64 a1_1, .int .i64 a1_2]) (ok := fun _ => True) (okp := fun _ => True) ?hr ?hp (fun _ hk => hk) trivial (Below.refl _ _) (Nat.le_refl _) (by simp) ?_; (case hd => rfl); (case hg => rfl); (case hr => first | (go_simp; done) | (go_simp; rfl)); (case hp => exact (Reps.c3 (show Kd.M k39 _ _ _ (⟨a1_0, a1_1, a1_2⟩ : S39) [.int .i64 a1_0, .int .i64 a1_1, .int .i64 a1_2] from (k39_mkM _ _ _ (⟨a1_0, a1_1, a1_2⟩ : S39) )) (Reps.none _ _))); intro v200 w18 ho19 hb hg_ hnew_; clear hg_ hnew_; (first | rw [← Ny199.out] at ho19 | (simp only [Int.reduceToNat] at ho19; rw [← Ny199.out] at ho19)); have n0_ := Aside0.mk (Kd.R_lower (Kd.R_newB ho19 (bkA BK193)) (below_size blA)); have n1_ := kB BK193 hb; have n2_ := lB hb; clear BK193; clear HB; have HO201 := n0_; have BK193 := n1_; have HB := n2_; clear n0_ n1_ n2_; clear hb ho19))
      go_loopg [9, 10] kj13 (fun kq v9 v10 w' => ∃ (x9_3 : List (S39)) (x10_3 : Int), v10 = .int .i64 x10_3 ∧ Aside0 (spec_SphereAround.l0 kq a0 a2 x9_3 x10_3 a1_0 a1_1 a1_2 = some (r1, r2)) ∧ Aside0 (kq ≤ kj13) ∧ Aside0 (Kd.R k39 39 w' w.heap.size (fun k_ => k_ ≠ gb193) v9 x9_3) ∧ Aside0 (w'.heap[gb193]? = some (.cells #[.int .i64 a1_0, .int .i64 a1_1, .int .i64 a1_2] 39 (0, 0))) ∧ Aside0 (Below w.heap.size w w'))
      case atStart => exact ⟨(y199), (1), hB, H', ⟨Nat.le_refl _⟩, ⟨by (with_reducible repeat (first | apply Kd.R_alloc | apply Kd.R_drewN | apply Kd.R_drew)); exact Kd.R_mono HO201.out (fun _ hk => hk.2)⟩, ⟨bkA BK193⟩, ⟨blA⟩⟩
      case round =>
       clear H'
       try clear c3
       try clear c12
       try clear c12b0
       try clear c12b1
       try clear c15
       try clear c16
       try clear c16b0
       try clear c16b1
       try clear hcz17_0
       try clear hcz17_1
       try clear hcz17_2
       try clear hcz7_0
       try clear hcz7_1
       try clear hcz7_2
       try clear hfz17_0
       try clear hfz17_1
       try clear hfz17_2
       try clear hfz7_0
       try clear hfz7_1
       try clear hfz7_2
       obtain ⟨x9_3, x10_3, rfl, HA, HK3, HO_9, BK193, HB⟩ := hrel
       cases gk with
       | zero => exact absurd HA.out (by simp [spec_SphereAround.l0])
       | succ k3 =>
        have H := HA.out
        clear HA
        simp only [spec_SphereAround.l0] at H
        by_cases c20 : x10_3 ≤ a2
        ·
         rw [if_pos c20] at H
         have c20b0 := decide_eq_true c20
         clear c20
         obtain ⟨y202, hy202⟩ : ∃ y_ : List (S39), y_ = (([] : List (S39))) := ⟨_, rfl⟩
         replace H : (spec_SphereAround.l1 k3 a0 a2 x9_3 x10_3 y202 0 a1_0 a1_1 a1_2) = some (r1, r2) := by first | (rw [hy202]; with_reducible exact H) | (have H2_ := (Option.bind_some _ _).symm.trans H; rw [hy202]; with_reducible exact H2_) | (have H2_ := (Option.bind_some _ _).symm.trans H; with_reducible exact H2_) | with_reducible exact H | (rw [hy202]; exact H) | exact H
         have Ny202 := Aside0.mk hy202
         clear hy202
         have H' := Aside0.mk H
         clear H
         go_wp2_with (first | ((with_reducible refine gate_dst (N := 37) rfl ?_); refine Kd.R_lit k39 _ 39 ?hg (N := 37) ?hd (xs := ([] : List (S39))) (inner := []) (ok := fun _ => True) (okp := fun _ => True) ?hr ?hp (fun _ hk => hk) trivial (Below.refl _ _) (Nat.le_refl _) (by simp) ?_; (case hd => rfl); (case hg => rfl); (case hr => first | (go_simp; done) | (go_simp; rfl)); (case hp => exact (Reps.none _ _)); intro v203 w21 ho22 hb hg_ hnew_; clear hg_ hnew_; (first | rw [← Ny202.out] at ho22 | (simp only [Int.reduceToNat] at ho22; rw [← Ny202.out] at ho22)); have n0_ := Aside0.mk (Kd.R_elder' (rA HO_9) (Kd.R_base ho22) hb); have n1_ := Aside0.mk (Kd.R_lower (Kd.R_newB (Kd.R_new' ho22 (Kd.R_lt (rA HO_9))) (bkA BK193)) (below_size blA)); have n2_ := kB BK193 hb; have n3_ := lB hb; clear HO_9; clear BK193; clear HB; have HO_9 := n0_; have HO204 := n1_; have BK193 := n2_; have HB := n3_; clear n0_ n1_ n2_ n3_; clear hb ho22))
         go_loopg [11, 12] k3 (fun kq v11 v12 w' => ∃ (x11_4 : List (S39)) (x12_4 : Int), v12 = .int .i64 x12_4 ∧ Aside0 (spec_SphereAround.l1 kq a0 a2 x9_3 x10_3 x11_4 x12_4 a1_0 a1_1 a1_2 = some (r1, r2)) ∧ Aside0 (kq ≤ k3) ∧ Aside0 (Kd.R k39 39 w' w.heap.size (fun k_ => some k_ ≠ (v11 : Value).ownBlock ∧ k_ ≠ gb193) u9 x9_3) ∧ Aside0 (Kd.R k39 39 w' w.heap.size (fun k_ => some k_ ≠ (u9 : Value).ownBlock ∧ k_ ≠ gb193) v11 x11_4) ∧ Aside0 (w'.heap[gb193]? = some (.cells #[.int .i64 a1_0, .int .i64 a1_1, .int .i64 a1_2] 39 (0, 0))) ∧ Aside0 (Below w.heap.size w w'))
         case atStart => exact ⟨(y202), (0), hB, H', ⟨Nat.le_refl _⟩, ⟨by (with_reducible repeat (first | apply Kd.R_alloc | apply Kd.R_drewN | apply Kd.R_drew)); exact Kd.R_mono HO_9.out (fun _ hk => ⟨hk.2, hk.1⟩)⟩, ⟨by (with_reducible repeat (first | apply Kd.R_alloc | apply Kd.R_drewN | apply Kd.R_drew)); exact Kd.R_mono HO204.out (fun _ hk => ⟨hk.1.2, hk.2⟩)⟩, ⟨bkA BK193⟩, ⟨blA⟩⟩
         case round =>
          clear H'
          try clear c3
          try clear c12
          try clear c12b0
          try clear c12b1
          try clear c15
          try clear c16
          try clear c16b0
          try clear c16b1
          try clear c20
          try clear c20b0
          try clear hcz17_0
          try clear hcz17_1
          try clear hcz17_2
          try clear hcz7_0
          try clear hcz7_1
          try clear hcz7_2
          try clear hfz17_0
          try clear hfz17_1
          try clear hfz17_2
          try clear hfz7_0
          try clear hfz7_1
          try clear hfz7_2
          obtain ⟨x11_4, x12_4, rfl, HA, HK4, HO_9, HO_11, BK193, HB⟩ := hrel
          cases gk with
          | zero => exact absurd HA.out (by simp [spec_SphereAround.l1])
          | succ k4 =>
           have H := HA.out
           clear HA
           simp only [spec_SphereAround.l1] at H
           by_cases c23 : x12_4 < (x9_3.length : Int)
           ·
            rw [if_pos c23] at H
            have c23b0 := decide_eq_true c23
            clear c23
            by_cases c24 : 0 ≤ x12_4
            ·
             rw [if_pos c24] at H
             have c24b0 := decide_eq_true c24
             clear c24
             replace H := bS H
             obtain ⟨⟨t206, t209⟩, A25, H⟩ := H
             try dsimp only at H
             by_cases c26 : t209 = true
             ·
              subst c26
              rw [if_pos rfl] at H
              try dsimp only at H
              have H' := Aside0.mk H
              clear H
              obtain ⟨Ao27, co27, eo27⟩ := Kd.R_slice HO_9.out
              subst eo27
              have p205 : 0 ≤ (x12_4 : Int) := dA
              have q205 : x12_4 < (x9_3.length : Int) := dA
              obtain ⟨ad205, e205, hx205_0, hx205_1, hx205_2⟩ := at_T39 (Kd.R_reads' HO_9.out).2.2 x12_4 p205 q205
              cases e205
              replace p205 := eq_true p205
              replace q205 := eq_true q205
              go_wp2_with (first | ((with_reducible refine gate_callee (f := 115) rfl ?_); refine goesL_ (some 50) rfl rfl Try.func115 (by kernel_rfl) rfl #[.int .i64 a0, .agg #[.int .i64 ((rd_T39 x9_3 x12_4).f0), .int .i64 ((rd_T39 x9_3 x12_4).f1), .int .i64 ((rd_T39 x9_3 x12_4).f2)]] rfl hA ?_; (with_reducible refine (spec_l02Near.calls k4 a0 ((rd_T39 x9_3 x12_4).f0) ((rd_T39 x9_3 x12_4).f1) ((rd_T39 x9_3 x12_4).f2) t206 true _ A25.out).mono ?_); rintro e w28 ⟨v207, rfl, ho0, hb⟩; refine ⟨_, rfl, ?_⟩; have n0_ := Aside0.mk (Kd.R_elder' (rA HO_9) (Kd.R_base ho0) hb); have n1_ := Aside0.mk (Kd.R_elder' (rA HO_11) (Kd.R_base ho0) hb); have n2_ := Aside0.mk (Kd.R_lower (Kd.R_newB (Kd.R_new' (Kd.R_new' ho0 (Kd.R_lt (rA HO_9))) (Kd.R_lt (rA HO_11))) (bkA BK193)) (below_size blA)); have n3_ := kB BK193 hb; have n4_ := lB hb; clear HO_9; clear HO_11; clear BK193; clear HB; have HO_9 := n0_; have HO_11 := n1_; have HO208 := n2_; have BK193 := n3_; have HB := n4_; clear n0_ n1_ n2_ n3_ n4_; (try clear hb); (try clear hb2); (try clear hk); (try clear hi); (try clear ho0)))
              go_loopg [11, 15] k4 (fun kq v11 v15 w' => ∃ (x11_5 : List (S39)) (x15_5 : Int), v15 = .int .i64 x15_5 ∧ Aside0 (spec_SphereAround.l2 kq a0 a2 x9_3 x10_3 x11_5 x12_4 t206 x15_5 a1_0 a1_1 a1_2 = some (r1, r2)) ∧ Aside0 (kq ≤ k4) ∧ Aside0 (Kd.R k39 39 w' w.heap.size (fun k_ => some k_ ≠ (v11 : Value).ownBlock ∧ some k_ ≠ (v207 : Value).ownBlock ∧ k_ ≠ gb193) (.slice (some ad205) x9_3.length co27) x9_3) ∧ Aside0 (Kd.R k39 39 w' w.heap.size (fun k_ => some k_ ≠ ((.slice (some ad205) x9_3.length co27) : Value).ownBlock ∧ some k_ ≠ (v207 : Value).ownBlock ∧ k_ ≠ gb193) v11 x11_5) ∧ Aside0 (Kd.R k39 39 w' w.heap.size (fun k_ => some k_ ≠ ((.slice (some ad205) x9_3.length co27) : Value).ownBlock ∧ some k_ ≠ (v11 : Value).ownBlock ∧ k_ ≠ gb193) v207 t206) ∧ Aside0 (w'.heap[gb193]? = some (.cells #[.int .i64 a1_0, .int .i64 a1_1, .int .i64 a1_2] 39 (0, 0))) ∧ Aside0 (Below w.heap.size w w'))
              case atStart => exact ⟨(x11_4), (0), hB, H', ⟨Nat.le_refl _⟩, ⟨by (with_reducible repeat (first | apply Kd.R_alloc | apply Kd.R_drewN | apply Kd.R_drew)); exact Kd.R_mono HO_9.out (fun _ hk => ⟨hk.1.1, ⟨hk.2, hk.1.2⟩⟩)⟩, ⟨by (with_reducible repeat (first | apply Kd.R_alloc | apply Kd.R_drewN | apply Kd.R_drew)); exact Kd.R_mono HO_11.out (fun _ hk => ⟨hk.1.1, ⟨hk.2, hk.1.2⟩⟩)⟩, ⟨by (with_reducible repeat (first | apply Kd.R_alloc | apply Kd.R_drewN | apply Kd.R_drew)); exact Kd.R_mono HO208.out (fun _ hk => ⟨hk.1.1.2, ⟨hk.1.2, hk.2⟩⟩)⟩, ⟨bkA BK193⟩, ⟨blA⟩⟩
              case round =>
               clear H'
               try clear c3
               try clear c12
               try clear c12b0
               try clear c12b1
               try clear c15
               try clear c16
               try clear c16b0
               try clear c16b1
               try clear c20
               try clear c20b0
               try clear c23
               try clear c23b0
               try clear c24
               try clear c24b0
               try clear c26
               try clear hcz17_0
               try clear hcz17_1
               try clear hcz17_2
               try clear hcz7_0
               try clear hcz7_1
               try clear hcz7_2
               try clear hfz17_0
               try clear hfz17_1
               try clear hfz17_2
               try clear hfz7_0
               try clear hfz7_1
               try clear hfz7_2
               try clear hx205_0
               try clear hx205_1
               try clear hx205_2
               try clear p205
               try clear q205
               obtain ⟨x11_5, x15_5, rfl, HA, HK5, HO_9, HO_11, HO_13, BK193, HB⟩ := hrel
               cases gk with
               | zero => exact absurd HA.out (by simp [spec_SphereAround.l2])
               | succ k5 =>
                have H := HA.out
                clear HA
                simp only [spec_SphereAround.l2] at H
                by_cases c29 : x15_5 < (t206.length : Int)
                ·
                 rw [if_pos c29] at H
                 have c29b0 := decide_eq_true c29
                 clear c29
                 by_cases c30 : 0 ≤ x15_5
                 ·
                  rw [if_pos c30] at H
                  have c30b0 := decide_eq_true c30
                  clear c30
                  replace H := bS H
                  obtain ⟨t211, A31, H⟩ := H
                  try dsimp only at H
                  by_cases c32 : t211 = x10_3
                  ·
                   rw [if_pos c32] at H
                   have c32b0 : (t211 == x10_3) = true := beq_iff_eq.mpr c32
                   have c32b1 : (t211 != x10_3) = false := bne_eq_false_iff_eq.mpr c32
                   clear c32
                   by_cases c33 : x11_5.length < 5864062014805
                   ·
                    rw [if_pos c33] at H
                    have LMc33 := Aside0.mk c33
                    clear c33
                    obtain ⟨y213, hy213⟩ : ∃ y_ : List (S39), y_ = (x11_5 ++ [(⟨(rd_T39 t206 x15_5).f0, (rd_T39 t206 x15_5).f1, (rd_T39 t206 x15_5).f2⟩ : S39)]) := ⟨_, rfl⟩
                    replace H : (spec_SphereAround.l2 k5 a0 a2 x9_3 x10_3 y213 x12_4 t206 (wrap64 (x15_5 + 1)) a1_0 a1_1 a1_2) = some (r1, r2) := by first | (rw [hy213]; with_reducible exact H) | (have H2_ := (Option.bind_some _ _).symm.trans H; rw [hy213]; with_reducible exact H2_) | (have H2_ := (Option.bind_some _ _).symm.trans H; with_reducible exact H2_) | with_reducible exact H | (rw [hy213]; exact H) | exact H
                    have Ny213 := Aside0.mk hy213
                    clear hy213
                    have H' := Aside0.mk H
                    clear H
                    obtain ⟨Ao34, co34, eo34⟩ := Kd.R_slice HO_13.out
                    subst eo34
                    try go_wp2
                    have n0_ := Aside0.mk (Kd.R_drew HO_9.out)
                    have n1_ := Aside0.mk (Kd.R_drew HO_11.out)
                    have n2_ := Aside0.mk (Kd.R_drew HO_13.out)
                    have n3_ := Aside0.mk (blk_drew BK193.out)
                    have n4_ := Aside0.mk (below_drew1 HB.out)
                    clear HO_9
                    clear HO_11
                    clear HO_13
                    clear BK193
                    clear HB
                    have HO_9 := n0_
                    have HO_11 := n1_
                    have HO_13 := n2_
                    have BK193 := n3_
                    have HB := n4_
                    clear n0_ n1_ n2_ n3_ n4_
                    have p210 : 0 ≤ (x15_5 : Int) := dA
                    have q210 : x15_5 < (t206.length : Int) := dA
                    obtain ⟨ad210, e210, hx210_0, hx210_1, hx210_2⟩ := at_T39 (Kd.R_reads' HO_13.out).2.2 x15_5 p210 q210
                    cases e210
                    replace p210 := eq_true p210
                    replace q210 := eq_true q210
                    refine start_ (n := 9) (S := fun w' => w'.cell? ⟨gb193, 0, none⟩ = some (.int .i64 a1_0) ∧ w'.cell? ⟨gb193, 1, none⟩ = some (.int .i64 a1_1) ∧ w'.cell? ⟨gb193, 2, none⟩ = some (.int .i64 a1_2) ∧ w'.cell? (ad210.add ((x15_5).toNat * 3)) = some (.int .i64 ((rd_T39 t206 x15_5).f0)) ∧ w'.cell? ⟨(ad210.add ((x15_5).toNat * 3)).block, (ad210.add ((x15_5).toNat * 3)).off + 1, none⟩ = some (.int .i64 ((rd_T39 t206 x15_5).f1)) ∧ w'.cell? ⟨(ad210.add ((x15_5).toNat * 3)).block, (ad210.add ((x15_5).toNat * 3)).off + 2, none⟩ = some (.int .i64 ((rd_T39 t206 x15_5).f2))) (ds := []) #[Z, Z, Z, Z, Z, Z, Z, Z, Z] (by kernel_rfl) rfl rfl ⟨cA BK193 0, cA BK193 1, cA BK193 2, hx210_0, hx210_1, hx210_2⟩ (fun hHeld => ?_); refine with_tabW spec_SphereAround.tab20 spec_SphereAround.bits20 (fun HT_ HW_ => ?_)
                    generalize wr.drew = w35 at HO_9 HO_11 HO_13 BK193 HB hx210_0 hx210_1 hx210_2 hHeld ⊢
                    refine pure_ (i := 0) (N := some 61) (v := ?_) (a' := ?_) #[Y, Z, Z, Z, Z, Z, Z, Z, Z] rfl rfl (any_of HT_.out (by kernel_rfl)) (fun _ _ _ h => h) (Or.inl ⟨by rfl, ?_⟩) ?_ ?_
                    rotate_left
                    ·
                     intro w'
                     go_simp
                     with_reducible rfl
                    rotate_left
                    ·
                     simp only [pA]
                     rfl
                    refine pure_ (i := 2) (N := some 63) (v := ?_) (a' := ?_) #[Y, Z, Y, Z, Z, Z, Z, Z, Z] rfl rfl (any_of HT_.out (by kernel_rfl)) (fun _ _ _ h => h) (Or.inl ⟨by rfl, ?_⟩) ?_ ?_
                    rotate_left
                    ·
                     intro w'
                     go_simp
                     with_reducible rfl
                    rotate_left
                    ·
                     simp only [pA]
                     rfl
                    refine pure_ (i := 3) (N := some 64) (v := ?_) (a' := ?_) #[Y, Z, Y, Y, Z, Z, Z, Z, Z] rfl rfl (any_of HT_.out (by kernel_rfl)) (fun _ _ _ h => h) (Or.inl ⟨by rfl, ?_⟩) ?_ ?_
                    rotate_left
                    ·
                     intro w'
                     go_simp
                     with_reducible rfl
                    rotate_left
                    ·
                     simp only [pA]
                     rfl
                    refine pure_ (i := 4) (N := some 65) (v := ?_) (a' := ?_) #[Y, Z, Y, Y, Y, Z, Z, Z, Z] rfl rfl (any_of HT_.out (by kernel_rfl)) (fun _ _ _ h => h) (Or.inl ⟨by rfl, ?_⟩) ?_ ?_
                    rotate_left
                    ·
                     intro w'
                     go_simp
                     with_reducible rfl
                    rotate_left
                    ·
                     simp only [pA]
                     rfl
                    refine pure_ (i := 7) (N := some 68) (v := ?_) (a' := ?_) #[Y, Z, Y, Y, Y, Z, Z, Y, Z] rfl rfl (any_of HT_.out (by kernel_rfl)) (fun _ _ _ h => h) (Or.inl ⟨by rfl, ?_⟩) ?_ ?_
                    rotate_left
                    ·
                     intro w'
                     go_simp
                     with_reducible rfl
                    rotate_left
                    ·
                     simp only [pA]
                     rfl
                    refine take_ (i := 1) (N := some 62) (v := ?_) (a' := ?_) #[Y, Y, Y, Y, Y, Z, Z, Y, Z] rfl rfl (take_ofW HT_.out HW_.out (by kernel_rfl)) (fun _ _ _ h => h) (Or.inl ⟨by rfl, ?_⟩) hHeld ?_ ?_
                    rotate_left
                    ·
                     rintro w' ⟨s0, s1, s2, s3, s4, s5⟩
                     go_simp
                     with_reducible rfl
                    rotate_left
                    ·
                     simp only [pA]
                     rfl
                    refine take_ (i := 5) (N := some 66) (v := ?_) (a' := ?_) #[Y, Y, Y, Y, Y, Y, Z, Y, Z] rfl rfl (take_ofW HT_.out HW_.out (by kernel_rfl)) (fun _ _ _ h => h) (Or.inl ⟨by rfl, ?_⟩) hHeld ?_ ?_
                    rotate_left
                    ·
                     rintro w' ⟨s0, s1, s2, s3, s4, s5⟩
                     go_simp
                     with_reducible rfl
                    rotate_left
                    ·
                     simp only [pA]
                     rfl
                    refine one_ (i := 6) (N := some 67) #[Y, Y, Y, Y, Y, Y, Y, Y, Z] rfl rfl (one_of HT_.out (by kernel_rfl)) (by decide) (fun K hK => ?_)
                    refine goes_ Try.func102 (by kernel_rfl) rfl #[.int .i64 a0, .agg #[.int .i64 a1_0, .int .i64 a1_1, .int .i64 a1_2], .agg #[.int .i64 ((rd_T39 t206 x15_5).f0), .int .i64 ((rd_T39 t206 x15_5).f1), .int .i64 ((rd_T39 t206 x15_5).f2)]] (by rfl) rfl rfl hA ?_
                    with_reducible refine (spec_l02Distance.calls k5 a0 a1_0 a1_1 a1_2 ((rd_T39 t206 x15_5).f0) ((rd_T39 t206 x15_5).f1) ((rd_T39 t206 x15_5).f2) t211 _ A31.out).mono ?_
                    rintro e w36 ⟨rfl, hb⟩
                    have HS3_ := (hb.cell (World.block_lt_of_cell? _ _ (hHeld.2.2.2.1))).trans (hHeld.2.2.2.1)
                    have HS4_ := (hb.cell (World.block_lt_of_cell? _ _ (hHeld.2.2.2.2.1))).trans (hHeld.2.2.2.2.1)
                    have HS5_ := (hb.cell (World.block_lt_of_cell? _ _ (hHeld.2.2.2.2.2))).trans (hHeld.2.2.2.2.2)
                    refine ⟨_, rfl, ?_⟩
                    replace HO_9 := Aside0.mk (Kd.R_below (rA HO_9) hb)
                    replace HO_11 := Aside0.mk (Kd.R_below (rA HO_11) hb)
                    replace HO_13 := Aside0.mk (Kd.R_below (rA HO_13) hb)
                    replace BK193 := kB BK193 hb
                    replace HB := lB hb
                    (try clear hb)
                    (try clear hb2)
                    (try clear hk)
                    (try clear hi)
                    refine hK.out _ _ ⟨cA BK193 0, cA BK193 1, cA BK193 2, HS3_, HS4_, HS5_⟩ (fun hHeld => ?_)
                    clear hK K
                    refine norm_ (a' := ?_) ?_ ?_
                    rotate_left
                    ·
                     show Act.put _ (some 67) _ = _
                     simp only [pA]
                     rfl
                    refine pure_ (i := 8) (N := some 69) (v := ?_) (a' := ?_) #[Y, Y, Y, Y, Y, Y, Y, Y, Y] rfl rfl (any_of HT_.out (by kernel_rfl)) (fun _ _ _ h => h) (Or.inl ⟨by rfl, ?_⟩) ?_ ?_
                    rotate_left
                    ·
                     intro w'
                     go_simp
                     with_reducible rfl
                    rotate_left
                    ·
                     simp only [pA]
                     rfl
                    refine done_ (done_of HT_.out (by kernel_rfl)) ?_
                    have p212 : 0 ≤ (x15_5 : Int) := dA
                    have q212 : x15_5 < (t206.length : Int) := dA
                    obtain ⟨ad212, e212, hx212_0, hx212_1, hx212_2⟩ := at_T39 (Kd.R_reads' HO_13.out).2.2 x15_5 p212 q212
                    obtain rfl : ad210 = ad212 := (by injection e212)
                    replace p212 := eq_true p212
                    replace q212 := eq_true q212
                    try go_wp2_with (first | ((with_reducible refine gate_builtin (b := .append) (xs := #[.tmp 70, .tmp 75]) rfl ?_); at_builtin; refine Kd.R_append k39 (w0 := w) w.heap.size rfl (.tmp 70) (.tmp 75) 36 39 (.agg #[(.int .i64 0), (.int .i64 0), (.int .i64 0)]) 24 rfl Try.underlying36 info39 rfl (by decide) (by omega) u11 x11_5 (⟨(rd_T39 t206 x15_5).f0, (rd_T39 t206 x15_5).f1, (rd_T39 t206 x15_5).f2⟩ : S39) [.int .i64 ((rd_T39 t206 x15_5).f0), .int .i64 ((rd_T39 t206 x15_5).f1), .int .i64 ((rd_T39 t206 x15_5).f2)] (fun k_ => some k_ ≠ (.slice (some ad205) x9_3.length co27 : Value).ownBlock ∧ some k_ ≠ (.slice (some ad210) t206.length co34 : Value).ownBlock ∧ k_ ≠ gb193) (fun _ => False) rfl rfl ?aP (fun _ hk => hk.elim) ?aF ?aO ?aB ?aS ?aL ?_; (case aP => exact k39_mkM _ _ _ (⟨(rd_T39 t206 x15_5).f0, (rd_T39 t206 x15_5).f1, (rd_T39 t206 x15_5).f2⟩ : S39)); (case aB => exact blA); (case aF => exact (fun k_ hk => ⟨Kd.fresh' (Kd.R_lt (rA HO_9)) k_ hk, Kd.fresh' (Kd.R_lt (rA HO_13)) k_ hk, Kd.freshB (bkA BK193) k_ hk⟩)); (case aO => exact (rA HO_11)); (case aS => exact (below_size blA)); (case aL => have := LMc33.out; omega); intro v214 w37 ho hb hg hat; rw [← Ny213.out] at ho; have n0_ := Aside0.mk (Kd.R_after (ok := (fun k_ => some k_ ≠ (.slice (some ad210) t206.length co34 : Value).ownBlock ∧ k_ ≠ gb193)) (by (with_reducible repeat (first | apply Kd.R_alloc | apply Kd.R_drewN | apply Kd.R_drew)); exact Kd.R_mono HO_9.out (fun _ hk => ⟨⟨hk.2.1, hk.2.2⟩, hk.1⟩)) hg hat); have n1_ := Aside0.mk (Kd.R_after (ok := (fun k_ => some k_ ≠ (.slice (some ad205) x9_3.length co27 : Value).ownBlock ∧ k_ ≠ gb193)) (by (with_reducible repeat (first | apply Kd.R_alloc | apply Kd.R_drewN | apply Kd.R_drew)); exact Kd.R_mono HO_13.out (fun _ hk => ⟨⟨hk.1, hk.2.2⟩, hk.2.1⟩)) hg hat); have n2_ := Aside0.mk (blk_grown (bkA BK193) hg (Kd.R_away HO_11.out (fun _ hk => hk.2.2))); have n3_ := Aside0.mk (hb); have n4_ := Aside0.mk (ho); clear HO_9; clear HO_13; clear BK193; clear HB; clear HO_11; have HO_9 := n0_; have HO_13 := n1_; have BK193 := n2_; have HB := n3_; have HO215 := n4_; clear n0_ n1_ n2_ n3_ n4_; clear ho hb hg hat))
                    go_roundg k5
                    case measure => have := HJ4.out; have := HJ13.out; have := HK3.out; have := HK4.out; have := HK5.out; omega
                    case rel => exact ⟨(y213), (wrap64 (x15_5 + 1)), hB, H', ⟨by have := HJ4.out; have := HJ13.out; have := HK3.out; have := HK4.out; have := HK5.out; omega⟩, ⟨by (with_reducible repeat (first | apply Kd.R_alloc | apply Kd.R_drewN | apply Kd.R_drew)); exact Kd.R_mono HO_9.out (fun _ hk => ⟨hk.2, ⟨hk.1.1, hk.1.2⟩⟩)⟩, ⟨rA HO215⟩, ⟨by (with_reducible repeat (first | apply Kd.R_alloc | apply Kd.R_drewN | apply Kd.R_drew)); exact Kd.R_mono HO_13.out (fun _ hk => ⟨hk.1.1, ⟨hk.2, hk.1.2⟩⟩)⟩, ⟨bkA BK193⟩, ⟨blA⟩⟩
                   ·
                    rw [if_neg c33] at H
                    exact absurd H (by simp)
                  ·
                   rw [if_neg c32] at H
                   have c32b0 : (t211 == x10_3) = false := beq_eq_false_iff_ne.mpr c32
                   have c32b1 : (t211 != x10_3) = true := bne_iff_ne.mpr c32
                   have H' := Aside0.mk H
                   clear H
                   obtain ⟨Ao38, co38, eo38⟩ := Kd.R_slice HO_13.out
                   subst eo38
                   try go_wp2
                   have n0_ := Aside0.mk (Kd.R_drew HO_9.out)
                   have n1_ := Aside0.mk (Kd.R_drew HO_11.out)
                   have n2_ := Aside0.mk (Kd.R_drew HO_13.out)
                   have n3_ := Aside0.mk (blk_drew BK193.out)
                   have n4_ := Aside0.mk (below_drew1 HB.out)
                   clear HO_9
                   clear HO_11
                   clear HO_13
                   clear BK193
                   clear HB
                   have HO_9 := n0_
                   have HO_11 := n1_
                   have HO_13 := n2_
                   have BK193 := n3_
                   have HB := n4_
                   clear n0_ n1_ n2_ n3_ n4_
                   have p210 : 0 ≤ (x15_5 : Int) := dA
                   have q210 : x15_5 < (t206.length : Int) := dA
                   obtain ⟨ad210, e210, hx210_0, hx210_1, hx210_2⟩ := at_T39 (Kd.R_reads' HO_13.out).2.2 x15_5 p210 q210
                   cases e210
                   replace p210 := eq_true p210
                   replace q210 := eq_true q210
                   refine start_ (n := 9) (S := fun w' => w'.cell? ⟨gb193, 0, none⟩ = some (.int .i64 a1_0) ∧ w'.cell? ⟨gb193, 1, none⟩ = some (.int .i64 a1_1) ∧ w'.cell? ⟨gb193, 2, none⟩ = some (.int .i64 a1_2) ∧ w'.cell? (ad210.add ((x15_5).toNat * 3)) = some (.int .i64 ((rd_T39 t206 x15_5).f0)) ∧ w'.cell? ⟨(ad210.add ((x15_5).toNat * 3)).block, (ad210.add ((x15_5).toNat * 3)).off + 1, none⟩ = some (.int .i64 ((rd_T39 t206 x15_5).f1)) ∧ w'.cell? ⟨(ad210.add ((x15_5).toNat * 3)).block, (ad210.add ((x15_5).toNat * 3)).off + 2, none⟩ = some (.int .i64 ((rd_T39 t206 x15_5).f2))) (ds := []) #[Z, Z, Z, Z, Z, Z, Z, Z, Z] (by kernel_rfl) rfl rfl ⟨cA BK193 0, cA BK193 1, cA BK193 2, hx210_0, hx210_1, hx210_2⟩ (fun hHeld => ?_); refine with_tabW spec_SphereAround.tab20 spec_SphereAround.bits20 (fun HT_ HW_ => ?_)
                   generalize wr.drew = w39 at HO_9 HO_11 HO_13 BK193 HB hx210_0 hx210_1 hx210_2 hHeld ⊢
                   refine pure_ (i := 0) (N := some 61) (v := ?_) (a' := ?_) #[Y, Z, Z, Z, Z, Z, Z, Z, Z] rfl rfl (any_of HT_.out (by kernel_rfl)) (fun _ _ _ h => h) (Or.inl ⟨by rfl, ?_⟩) ?_ ?_
                   rotate_left
                   ·
                    intro w'
                    go_simp
                    with_reducible rfl
                   rotate_left
                   ·
                    simp only [pA]
                    rfl
                   refine pure_ (i := 2) (N := some 63) (v := ?_) (a' := ?_) #[Y, Z, Y, Z, Z, Z, Z, Z, Z] rfl rfl (any_of HT_.out (by kernel_rfl)) (fun _ _ _ h => h) (Or.inl ⟨by rfl, ?_⟩) ?_ ?_
                   rotate_left
                   ·
                    intro w'
                    go_simp
                    with_reducible rfl
                   rotate_left
                   ·
                    simp only [pA]
                    rfl
                   refine pure_ (i := 3) (N := some 64) (v := ?_) (a' := ?_) #[Y, Z, Y, Y, Z, Z, Z, Z, Z] rfl rfl (any_of HT_.out (by kernel_rfl)) (fun _ _ _ h => h) (Or.inl ⟨by rfl, ?_⟩) ?_ ?_
                   rotate_left
                   ·
                    intro w'
                    go_simp
                    with_reducible rfl
                   rotate_left
                   ·
                    simp only [pA]
                    rfl
                   refine pure_ (i := 4) (N := some 65) (v := ?_) (a' := ?_) #[Y, Z, Y, Y, Y, Z, Z, Z, Z] rfl rfl (any_of HT_.out (by kernel_rfl)) (fun _ _ _ h => h) (Or.inl ⟨by rfl, ?_⟩) ?_ ?_
                   rotate_left
                   ·
                    intro w'
                    go_simp
                    with_reducible rfl
                   rotate_left
                   ·
                    simp only [pA]
                    rfl
                   refine pure_ (i := 7) (N := some 68) (v := ?_) (a' := ?_) #[Y, Z, Y, Y, Y, Z, Z, Y, Z] rfl rfl (any_of HT_.out (by kernel_rfl)) (fun _ _ _ h => h) (Or.inl ⟨by rfl, ?_⟩) ?_ ?_
                   rotate_left
                   ·
                    intro w'
                    go_simp
                    with_reducible rfl
                   rotate_left
                   ·
                    simp only [pA]
                    rfl
                   refine take_ (i := 1) (N := some 62) (v := ?_) (a' := ?_) #[Y, Y, Y, Y, Y, Z, Z, Y, Z] rfl rfl (take_ofW HT_.out HW_.out (by kernel_rfl)) (fun _ _ _ h => h) (Or.inl ⟨by rfl, ?_⟩) hHeld ?_ ?_
                   rotate_left
                   ·
                    rintro w' ⟨s0, s1, s2, s3, s4, s5⟩
                    go_simp
                    with_reducible rfl
                   rotate_left
                   ·
                    simp only [pA]
                    rfl
                   refine take_ (i := 5) (N := some 66) (v := ?_) (a' := ?_) #[Y, Y, Y, Y, Y, Y, Z, Y, Z] rfl rfl (take_ofW HT_.out HW_.out (by kernel_rfl)) (fun _ _ _ h => h) (Or.inl ⟨by rfl, ?_⟩) hHeld ?_ ?_
                   rotate_left
                   ·
                    rintro w' ⟨s0, s1, s2, s3, s4, s5⟩
                    go_simp
                    with_reducible rfl
                   rotate_left
                   ·
                    simp only [pA]
                    rfl
                   refine one_ (i := 6) (N := some 67) #[Y, Y, Y, Y, Y, Y, Y, Y, Z] rfl rfl (one_of HT_.out (by kernel_rfl)) (by decide) (fun K hK => ?_)
                   refine goes_ Try.func102 (by kernel_rfl) rfl #[.int .i64 a0, .agg #[.int .i64 a1_0, .int .i64 a1_1, .int .i64 a1_2], .agg #[.int .i64 ((rd_T39 t206 x15_5).f0), .int .i64 ((rd_T39 t206 x15_5).f1), .int .i64 ((rd_T39 t206 x15_5).f2)]] (by rfl) rfl rfl hA ?_
                   with_reducible refine (spec_l02Distance.calls k5 a0 a1_0 a1_1 a1_2 ((rd_T39 t206 x15_5).f0) ((rd_T39 t206 x15_5).f1) ((rd_T39 t206 x15_5).f2) t211 _ A31.out).mono ?_
                   rintro e w40 ⟨rfl, hb⟩
                   have HS3_ := (hb.cell (World.block_lt_of_cell? _ _ (hHeld.2.2.2.1))).trans (hHeld.2.2.2.1)
                   have HS4_ := (hb.cell (World.block_lt_of_cell? _ _ (hHeld.2.2.2.2.1))).trans (hHeld.2.2.2.2.1)
                   have HS5_ := (hb.cell (World.block_lt_of_cell? _ _ (hHeld.2.2.2.2.2))).trans (hHeld.2.2.2.2.2)
                   refine ⟨_, rfl, ?_⟩
                   replace HO_9 := Aside0.mk (Kd.R_below (rA HO_9) hb)
                   replace HO_11 := Aside0.mk (Kd.R_below (rA HO_11) hb)
                   replace HO_13 := Aside0.mk (Kd.R_below (rA HO_13) hb)
                   replace BK193 := kB BK193 hb
                   replace HB := lB hb
                   (try clear hb)
                   (try clear hb2)
                   (try clear hk)
                   (try clear hi)
                   refine hK.out _ _ ⟨cA BK193 0, cA BK193 1, cA BK193 2, HS3_, HS4_, HS5_⟩ (fun hHeld => ?_)
                   clear hK K
                   refine norm_ (a' := ?_) ?_ ?_
                   rotate_left
                   ·
                    show Act.put _ (some 67) _ = _
                    simp only [pA]
                    rfl
                   refine pure_ (i := 8) (N := some 69) (v := ?_) (a' := ?_) #[Y, Y, Y, Y, Y, Y, Y, Y, Y] rfl rfl (any_of HT_.out (by kernel_rfl)) (fun _ _ _ h => h) (Or.inl ⟨by rfl, ?_⟩) ?_ ?_
                   rotate_left
                   ·
                    intro w'
                    go_simp
                    with_reducible rfl
                   rotate_left
                   ·
                    simp only [pA]
                    rfl
                   refine done_ (done_of HT_.out (by kernel_rfl)) ?_
                   try go_wp2
                   go_roundg k5
                   case measure => have := HJ4.out; have := HJ13.out; have := HK3.out; have := HK4.out; have := HK5.out; omega
                   case rel => exact ⟨(x11_5), (wrap64 (x15_5 + 1)), hB, H', ⟨by have := HJ4.out; have := HJ13.out; have := HK3.out; have := HK4.out; have := HK5.out; omega⟩, ⟨rA HO_9⟩, ⟨rA HO_11⟩, ⟨rA HO_13⟩, ⟨bkA BK193⟩, ⟨blA⟩⟩
                 ·
                  rw [if_neg c30] at H
                  exact absurd H (by simp)
                ·
                 rw [if_neg c29] at H
                 have c29b0 := decide_eq_false c29
                 clear c29
                 have H' := Aside0.mk H
                 clear H
                 obtain ⟨Ao41, co41, eo41⟩ := Kd.R_slice HO_13.out
                 subst eo41
                 go_wp2
                 go_roundg k5
                 case measure => have := HJ4.out; have := HJ13.out; have := HK3.out; have := HK4.out; have := HK5.out; omega
                 case rel => exact ⟨(x11_5), (wrap64 (x12_4 + 1)), hB, H', ⟨by have := HJ4.out; have := HJ13.out; have := HK3.out; have := HK4.out; have := HK5.out; omega⟩, ⟨by (with_reducible repeat (first | apply Kd.R_alloc | apply Kd.R_drewN | apply Kd.R_drew)); exact Kd.R_mono HO_9.out (fun _ hk => ⟨hk.1, hk.2.2⟩)⟩, ⟨by (with_reducible repeat (first | apply Kd.R_alloc | apply Kd.R_drewN | apply Kd.R_drew)); exact Kd.R_mono HO_11.out (fun _ hk => ⟨hk.1, hk.2.2⟩)⟩, ⟨bkA BK193⟩, ⟨blA⟩⟩
             ·
              replace c26 := Bool.eq_false_iff.mpr c26
              subst c26
              rw [if_neg (show ¬ (false = true) by decide)] at H
              try dsimp only at H
              simp only [Option.some.injEq, Prod.mk.injEq] at H
              obtain ⟨rfl, rfl⟩ := H
              obtain ⟨Ao42, co42, eo42⟩ := Kd.R_slice HO_9.out
              subst eo42
              have p205 : 0 ≤ (x12_4 : Int) := dA
              have q205 : x12_4 < (x9_3.length : Int) := dA
              obtain ⟨ad205, e205, hx205_0, hx205_1, hx205_2⟩ := at_T39 (Kd.R_reads' HO_9.out).2.2 x12_4 p205 q205
              cases e205
              replace p205 := eq_true p205
              replace q205 := eq_true q205
              go_wp2_with (first | ((with_reducible refine gate_callee (f := 115) rfl ?_); refine goesL_ (some 50) rfl rfl Try.func115 (by kernel_rfl) rfl #[.int .i64 a0, .agg #[.int .i64 ((rd_T39 x9_3 x12_4).f0), .int .i64 ((rd_T39 x9_3 x12_4).f1), .int .i64 ((rd_T39 x9_3 x12_4).f2)]] rfl hA ?_; (with_reducible refine (spec_l02Near.calls k4 a0 ((rd_T39 x9_3 x12_4).f0) ((rd_T39 x9_3 x12_4).f1) ((rd_T39 x9_3 x12_4).f2) t206 false _ A25.out).mono ?_); rintro e w43 ⟨v207, rfl, ho0, hb⟩; refine ⟨_, rfl, ?_⟩; have n0_ := Aside0.mk (Kd.R_elder' (rA HO_9) (Kd.R_base ho0) hb); have n1_ := Aside0.mk (Kd.R_elder' (rA HO_11) (Kd.R_base ho0) hb); have n2_ := Aside0.mk (Kd.R_lower (Kd.R_newB (Kd.R_new' (Kd.R_new' ho0 (Kd.R_lt (rA HO_9))) (Kd.R_lt (rA HO_11))) (bkA BK193)) (below_size blA)); have n3_ := kB BK193 hb; have n4_ := lB hb; clear HO_9; clear HO_11; clear BK193; clear HB; have HO_9 := n0_; have HO_11 := n1_; have HO208 := n2_; have BK193 := n3_; have HB := n4_; clear n0_ n1_ n2_ n3_ n4_; (try clear hb); (try clear hb2); (try clear hk); (try clear hi); (try clear ho0)))
              go_ret2
              exact ⟨_, by first | rfl | (simp [errW_none, errW_some] <;> rfl) | (simp [*, errW_none, errW_some] <;> rfl), by first | exact Kd.R_nil _ _ _ _ _ | exact Kd.N_nil _ _ _ _ _ | exact Kd.V_nil _ _ _ _ _ | exact Kd.Q_nil _ _ _ _ _ | exact Kd.S_nil _ _ _ _ _, blA⟩
            ·
             rw [if_neg c24] at H
             exact absurd H (by simp)
           ·
            rw [if_neg c23] at H
            have c23b0 := decide_eq_false c23
            clear c23
            have H' := Aside0.mk H
            clear H
            obtain ⟨Ao44, co44, eo44⟩ := Kd.R_slice HO_9.out
            subst eo44
            go_wp2
            go_roundg k4
            case measure => have := HJ4.out; have := HJ13.out; have := HK3.out; have := HK4.out; omega
            case rel => exact ⟨(x11_4), (wrap64 (x10_3 + 1)), hB, H', ⟨by have := HJ4.out; have := HJ13.out; have := HK3.out; have := HK4.out; omega⟩, ⟨by (with_reducible repeat (first | apply Kd.R_alloc | apply Kd.R_drewN | apply Kd.R_drew)); exact Kd.R_mono HO_11.out (fun _ hk => hk.2)⟩, ⟨bkA BK193⟩, ⟨blA⟩⟩
        ·
         rw [if_neg c20] at H
         have c20b0 := decide_eq_false c20
         clear c20
         simp only [Option.some.injEq, Prod.mk.injEq] at H
         obtain ⟨rfl, rfl⟩ := H
         go_wp2
         go_ret2
         exact ⟨_, by first | rfl | (simp [errW_none, errW_some] <;> rfl) | (simp [*, errW_none, errW_some] <;> rfl), by (with_reducible repeat (first | apply Kd.R_alloc | apply Kd.R_drewN | apply Kd.R_drew)); exact Kd.R_mono HO_9.out (fun _ hk => trivial), blA⟩
     ·
      rw [if_neg c16] at H
      have c16b0 : (x8_13 == 0) = false := beq_eq_false_iff_ne.mpr c16
      have c16b1 : (x8_13 != 0) = true := bne_iff_ne.mpr c16
      simp only [Option.some.injEq, Prod.mk.injEq] at H
      obtain ⟨rfl, rfl⟩ := H
      go_wp2
      go_ret2
      exact ⟨_, by first | rfl | (simp [errW_none, errW_some] <;> rfl) | (simp [*, errW_none, errW_some] <;> rfl), by first | exact Kd.R_nil _ _ _ _ _ | exact Kd.N_nil _ _ _ _ _ | exact Kd.V_nil _ _ _ _ _ | exact Kd.Q_nil _ _ _ _ _ | exact Kd.S_nil _ _ _ _ _, blA⟩
end Go.Proofs.Ytccpccnnbacgjaa.PAll
