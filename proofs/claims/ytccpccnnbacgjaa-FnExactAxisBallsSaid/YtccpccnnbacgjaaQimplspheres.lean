-- turned for this claim out of the kit's print: the same functions, packed anew
import Derived.Test.YtccpccnnbacgjaaQx
import Derived.Test.YtccpccnnbacgjaaQimplneighbour
import Derived.Test.YtccpccnnbacgjaaQimplsomeNeighbours
namespace Go.Proofs.Ytccpccnnbacgjaa.PAll
open Go.RowKit Go.Proofs.YtccpccnnbacgjaaW.PrintWords Go.Proofs.YtccpccnnbacgjaaW.PrintLast Go.Proofs.YtccpccnnbacgjaaW.PrintMore
attribute [local go_sem] Go.Proofs.Ytccpccnnbacgjaa.Aux.setCell_drewN Go.Proofs.Ytccpccnnbacgjaa.Aux.isSome_setCell max2_int min2_int max_two min_two max_three min_three max_four min_four   -- for this text's walks alone
set_option linter.unusedVariables false
set_option linter.unusedSimpArgs false
/-! ### impl_spheres: function 65 -/
mutual
def impl_spheres.l0 : Nat → Int → List (List (S39)) → Int → Int → Int → Int → Int → Option ((List (List (S39))) × Bool)
 | 0, _, _, _, _, _, _, _ => none
 | k + 1, x0, x8, x20, x21, x312000, x312001, x312002 => if x21 < x20 then (if 0 ≤ x21 then (if x21 < (x8.length : Int) then (impl_spheres.l1 k x0 x8 x21 (([] : List (S39))) x20 x21 (rd_L2 x8 x21) ((rd_L2 x8 x21).length : Int) 0 x312000 x312001 x312002) else (none)) else (none)) else (some (x8, true))
def impl_spheres.l1 : Nat → Int → List (List (S39)) → Int → List (S39) → Int → Int → List (S39) → Int → Int → Int → Int → Int → Option ((List (List (S39))) × Bool)
 | 0, _, _, _, _, _, _, _, _, _, _, _, _ => none
 | k + 1, x0, x8, x9, x10, x20, x21, x28, x29, x30, x312000, x312001, x312002 => if x30 < x29 then (if 0 ≤ x30 then (if x30 < (x28.length : Int) then ((impl_someNeighbours.f k x0 ((rd_T39 x28 x30).f0) ((rd_T39 x28 x30).f1) ((rd_T39 x28 x30).f2) 0).bind fun bt327 => (if bt327.2 = true then (impl_spheres.l2 k x0 x8 x9 x10 x20 x21 x28 x29 x30 bt327.1 (bt327.1.length : Int) 0 x312000 x312001 x312002) else (some (([] : List (List (S39))), false)))) else (none)) else (none)) else (if x8.length < 5864062014805 then (impl_spheres.l0 k x0 (x8 ++ [x10]) x20 (wrap64 (x21 + 1)) x312000 x312001 x312002) else (none))
def impl_spheres.l2 : Nat → Int → List (List (S39)) → Int → List (S39) → Int → Int → List (S39) → Int → Int → List (S39) → Int → Int → Int → Int → Int → Option ((List (List (S39))) × Bool)
 | 0, _, _, _, _, _, _, _, _, _, _, _, _, _, _, _ => none
 | k + 1, x0, x8, x9, x10, x20, x21, x28, x29, x30, x42, x43, x44, x312000, x312001, x312002 => if x44 < x43 then (if 0 ≤ x44 then (if x44 < (x42.length : Int) then ((impl_distance.f k x0 x312000 x312001 x312002 ((rd_T39 x42 x44).f0) ((rd_T39 x42 x44).f1) ((rd_T39 x42 x44).f2)).bind fun t333 => (if t333 > x9 then (if x10.length < 5864062014805 then (impl_spheres.l2 k x0 x8 x9 (x10 ++ [(⟨(rd_T39 x42 x44).f0, (rd_T39 x42 x44).f1, (rd_T39 x42 x44).f2⟩ : S39)]) x20 x21 x28 x29 x30 x42 x43 (wrap64 (x44 + 1)) x312000 x312001 x312002) else (none)) else (impl_spheres.l2 k x0 x8 x9 x10 x20 x21 x28 x29 x30 x42 x43 (wrap64 (x44 + 1)) x312000 x312001 x312002))) else (none)) else (none)) else (impl_spheres.l1 k x0 x8 x9 x10 x20 x21 x28 x29 (wrap64 (x30 + 1)) x312000 x312001 x312002)
end
def impl_spheres.f (k : Nat) (a0 : Int) (a1_0 : Int) (a1_1 : Int) (a1_2 : Int) (a2 : Int) : Option ((List (List (S39))) × Bool) := impl_spheres.l0 k a0 (([(([(⟨a1_0, a1_1, a1_2⟩ : S39)] : List (S39)))] : List (List (S39)))) a2 0 a1_0 a1_1 a1_2
theorem impl_spheres.mono_l : ∀ k, (∀ y0 y1 y2 y3 y4 y5 y6, LeO (impl_spheres.l0 k y0 y1 y2 y3 y4 y5 y6) (impl_spheres.l0 (k + 1) y0 y1 y2 y3 y4 y5 y6)) ∧ (∀ y0 y1 y2 y3 y4 y5 y6 y7 y8 y9 y10 y11, LeO (impl_spheres.l1 k y0 y1 y2 y3 y4 y5 y6 y7 y8 y9 y10 y11) (impl_spheres.l1 (k + 1) y0 y1 y2 y3 y4 y5 y6 y7 y8 y9 y10 y11)) ∧ (∀ y0 y1 y2 y3 y4 y5 y6 y7 y8 y9 y10 y11 y12 y13 y14, LeO (impl_spheres.l2 k y0 y1 y2 y3 y4 y5 y6 y7 y8 y9 y10 y11 y12 y13 y14) (impl_spheres.l2 (k + 1) y0 y1 y2 y3 y4 y5 y6 y7 y8 y9 y10 y11 y12 y13 y14))
 | 0 => ⟨fun _ _ _ _ _ _ _ r h => by simp [impl_spheres.l0] at h, fun _ _ _ _ _ _ _ _ _ _ _ _ r h => by simp [impl_spheres.l1] at h, fun _ _ _ _ _ _ _ _ _ _ _ _ _ _ _ r h => by simp [impl_spheres.l2] at h⟩
 | k + 1 => by
  obtain ⟨ih0, ih1, ih2⟩ := impl_spheres.mono_l k
  refine ⟨?_, ?_, ?_⟩
  ·
   intro y0 y1 y2 y3 y4 y5 y6
   unfold impl_spheres.l0
   repeat' first
   | (with_reducible exact ih0 _ _ _ _ _ _ _)
   | (with_reducible exact ih1 _ _ _ _ _ _ _ _ _ _ _ _)
   | (with_reducible exact ih2 _ _ _ _ _ _ _ _ _ _ _ _ _ _ _)
   | (with_reducible exact impl_distance.mono _ _ _ _ _ _ _ _)
   | (with_reducible exact impl_someNeighbours.mono _ _ _ _ _ _)
   | (with_reducible exact LeO.refl _)
   | (with_reducible exact LeO.none _)
   | (with_reducible refine LeO.ite ?_ ?_)
   | (with_reducible refine LeO.bind ?_ (fun _ => ?_))
  ·
   intro y0 y1 y2 y3 y4 y5 y6 y7 y8 y9 y10 y11
   unfold impl_spheres.l1
   repeat' first
   | (with_reducible exact ih0 _ _ _ _ _ _ _)
   | (with_reducible exact ih1 _ _ _ _ _ _ _ _ _ _ _ _)
   | (with_reducible exact ih2 _ _ _ _ _ _ _ _ _ _ _ _ _ _ _)
   | (with_reducible exact impl_distance.mono _ _ _ _ _ _ _ _)
   | (with_reducible exact impl_someNeighbours.mono _ _ _ _ _ _)
   | (with_reducible exact LeO.refl _)
   | (with_reducible exact LeO.none _)
   | (with_reducible refine LeO.ite ?_ ?_)
   | (with_reducible refine LeO.bind ?_ (fun _ => ?_))
  ·
   intro y0 y1 y2 y3 y4 y5 y6 y7 y8 y9 y10 y11 y12 y13 y14
   unfold impl_spheres.l2
   repeat' first
   | (with_reducible exact ih0 _ _ _ _ _ _ _)
   | (with_reducible exact ih1 _ _ _ _ _ _ _ _ _ _ _ _)
   | (with_reducible exact ih2 _ _ _ _ _ _ _ _ _ _ _ _ _ _ _)
   | (with_reducible exact impl_distance.mono _ _ _ _ _ _ _ _)
   | (with_reducible exact impl_someNeighbours.mono _ _ _ _ _ _)
   | (with_reducible exact LeO.refl _)
   | (with_reducible exact LeO.none _)
   | (with_reducible refine LeO.ite ?_ ?_)
   | (with_reducible refine LeO.bind ?_ (fun _ => ?_))
theorem impl_spheres.mono : ∀ a0 a1 a2 a3 a4 k, LeO (impl_spheres.f k a0 a1 a2 a3 a4) (impl_spheres.f (k + 1) a0 a1 a2 a3 a4) := by
 intro a0 a1 a2 a3 a4 k
 obtain ⟨ih0, ih1, ih2⟩ := impl_spheres.mono_l k
 unfold impl_spheres.f
 repeat' first
   | (with_reducible exact ih0 _ _ _ _ _ _ _)
   | (with_reducible exact ih1 _ _ _ _ _ _ _ _ _ _ _ _)
   | (with_reducible exact ih2 _ _ _ _ _ _ _ _ _ _ _ _ _ _ _)
   | (with_reducible exact impl_distance.mono _ _ _ _ _ _ _ _)
   | (with_reducible exact impl_someNeighbours.mono _ _ _ _ _ _)
   | (with_reducible exact LeO.refl _)
   | (with_reducible exact LeO.none _)
   | (with_reducible refine LeO.ite ?_ ?_)
   | (with_reducible refine LeO.bind ?_ (fun _ => ?_))
set_option maxHeartbeats 8000000 in
set_option maxRecDepth 100000 in
theorem impl_spheres.calls (k : Nat) (a0 : Int) (a1_0 : Int) (a1_1 : Int) (a1_2 : Int) (a2 : Int) (r1 : List (List (S39))) (r2 : Bool) (w : World) (h : impl_spheres.f k a0 a1_0 a1_1 a1_2 a2 = some (r1, r2)) :
  Calls Try.prog 65 #[.int .i64 a0, .agg #[.int .i64 a1_0, .int .i64 a1_1, .int .i64 a1_2], .int .i64 a2] w fun e w' => ∃ v0_ : Value, e = .returned (.tuple #[v0_, .bool r2]) ∧ Kd.N (Kd.slice 39 k39) 36 w' w.heap.size (fun k_ => (w.heap.size ≤ k_)) v0_ r1 ∧ Below w.heap.size w w' := by
 have hu39 := Try.underlying39
 have HB := Aside0.mk (Below.refl w.heap.size w)
 have H := h
 unfold impl_spheres.f at H
 clear h
 obtain ⟨y312, hy312⟩ : ∃ y_ : List (S39), y_ = (([(⟨a1_0, a1_1, a1_2⟩ : S39)] : List (S39))) := ⟨_, rfl⟩
 replace H : (impl_spheres.l0 k a0 (([y312] : List (List (S39)))) a2 0 a1_0 a1_1 a1_2) = some (r1, r2) := by first | (rw [hy312]; with_reducible exact H) | (have H2_ := (Option.bind_some _ _).symm.trans H; rw [hy312]; with_reducible exact H2_) | (have H2_ := (Option.bind_some _ _).symm.trans H; with_reducible exact H2_) | with_reducible exact H | (rw [hy312]; exact H) | exact H
 have Ny312 := Aside0.mk hy312
 clear hy312
 obtain ⟨y315, hy315⟩ : ∃ y_ : List (List (S39)), y_ = (([y312] : List (List (S39)))) := ⟨_, rfl⟩
 replace H : (impl_spheres.l0 k a0 y315 a2 0 a1_0 a1_1 a1_2) = some (r1, r2) := by first | (rw [hy315]; with_reducible exact H) | (have H2_ := (Option.bind_some _ _).symm.trans H; rw [hy315]; with_reducible exact H2_) | (have H2_ := (Option.bind_some _ _).symm.trans H; with_reducible exact H2_) | with_reducible exact H | (rw [hy315]; exact H) | exact H
 have Ny315 := Aside0.mk hy315
 clear hy315
 have H' := Aside0.mk H
 clear H
 go_enter Try.func65, Try.ntmps65
 go_wp2_with (first | ((with_reducible refine gate_dst (N := 4) rfl ?_); refine box_event ?hg (N := 4) ?hd (cs := #[.int .i64 a1_0, .int .i64 a1_1, .int .i64 a1_2]) (t := 39) ?hr ?_; (case hd => rfl); (case hg => rfl); (case hr => first | (go_simp; done) | (go_simp; rfl)); intro gb311 hg w4 hbox hb; have BK311 := Aside0.mk (hbox); have GW311 := sA hg; have GE311 := sA hg; replace HB := lB hb; clear hb hbox hg; have hcz5_0 : w4.cell? ⟨gb311, 0, none⟩ = some (.int .i64 a1_0) := cA BK311 0; have hcz5_1 : w4.cell? ⟨gb311, 1, none⟩ = some (.int .i64 a1_1) := cA BK311 1; have hcz5_2 : w4.cell? ⟨gb311, 2, none⟩ = some (.int .i64 a1_2) := cA BK311 2; have hfz5_0 := blk_frozen BK311.out 0; have hfz5_1 := blk_frozen BK311.out 1; have hfz5_2 := blk_frozen BK311.out 2) | ((with_reducible refine gate_dst (N := 18) rfl ?_); refine Kd.R_lit k39 _ 39 ?hg (N := 18) ?hd (xs := ([(⟨a1_0, a1_1, a1_2⟩ : S39)] : List (S39))) (inner := [.int .i64 a1_0, .int .i64 a1_1, .int .i64 a1_2]) (ok := fun _ => True) (okp := fun _ => True) ?hr ?hp (fun _ hk => hk) trivial (Below.refl _ _) (Nat.le_refl _) (by simp) ?_; (case hd => rfl); (case hg => rfl); (case hr => first | (go_simp; done) | (go_simp; rfl)); (case hp => exact (Reps.c3 (show Kd.M k39 _ _ _ (⟨a1_0, a1_1, a1_2⟩ : S39) [.int .i64 a1_0, .int .i64 a1_1, .int .i64 a1_2] from (k39_mkM _ _ _ (⟨a1_0, a1_1, a1_2⟩ : S39) )) (Reps.none _ _))); intro v313 w6 ho7 hb hg_ hnew_; clear hg_ hnew_; (first | rw [← Ny312.out] at ho7 | (simp only [Int.reduceToNat] at ho7; rw [← Ny312.out] at ho7)); have HO314 := Aside0.mk (Kd.R_lower (Kd.R_newB (Kd.R_newM (M := fun k_ => (w.heap.size ≤ k_)) ho7 (below_size blA) (fun k_ h_ => h_)) (bkA BK311)) (below_size blA)); replace BK311 := kB BK311 hb; replace HB := lB hb; clear hb ho7; obtain ⟨Ao8, co8, eo8⟩ := Kd.R_slice HO314.out; subst eo8) | ((with_reducible refine gate_dst (N := 19) rfl ?_); refine Kd.N_lit (Kd.slice 39 k39) _ 36 ?hg (N' := 19) ?hd (xs := ([y312] : List (List (S39)))) (inner := [.slice Ao8 y312.length co8]) (ok := (fun k_ => (w.heap.size ≤ k_) ∧ k_ ≠ gb311)) (okp := (fun k_ => (w.heap.size ≤ k_) ∧ k_ ≠ gb311)) ?hr ?hp (fun _ hk => hk) ((show ∀ k_, w6.heap.size ≤ k_ → (fun k_ => (w.heap.size ≤ k_) ∧ k_ ≠ gb311) k_ from fun k_ hk => ⟨(Nat.le_trans (below_size blA) hk), Kd.freshB (bkA BK311) k_ hk⟩) _ (Nat.le_refl _)) (Below.refl _ _) (Nat.le_refl _) (by simp) ?_; (case hd => rfl); (case hg => rfl); (case hr => first | (go_simp; done) | (go_simp; rfl)); (case hp => exact (Reps.one (show Kd.FK (Kd.slice 39 k39) _ _ y312 [.slice Ao8 y312.length co8] from (Kd.FK_slice_mk (Kd.R_reads' (Kd.R_mono (ok' := (fun k_ => (w.heap.size ≤ k_) ∧ k_ ≠ gb311)) (HO314.out) (fun k_ hk => ⟨hk.1.1, hk.2⟩))).2.1 (Kd.R_F (Kd.R_mono (ok' := (fun k_ => (w.heap.size ≤ k_) ∧ k_ ≠ gb311)) (HO314.out) (fun k_ hk => ⟨hk.1.1, hk.2⟩))))) (Reps.none _ _))); intro v316 w9 ho10 hb hg_ hnew_; clear hg_ hnew_; (first | rw [← Ny315.out] at ho10 | (simp only [Int.reduceToNat] at ho10; rw [← Ny315.out] at ho10)); have HO317 := Aside0.mk (Kd.N_lower ho10 (below_size blA)); replace BK311 := kB BK311 hb; replace HB := lB hb; clear HO314; clear hb ho10))
 go_loopg [8, 21] k (fun kq v8 v21 w' => ∃ (x8_1 : List (List (S39))) (x21_1 : Int), v21 = .int .i64 x21_1 ∧ Aside0 (impl_spheres.l0 kq a0 x8_1 a2 x21_1 a1_0 a1_1 a1_2 = some (r1, r2)) ∧ Aside0 (kq ≤ k) ∧ Aside0 (Kd.N (Kd.slice 39 k39) 36 w' w.heap.size (fun k_ => (w.heap.size ≤ k_) ∧ k_ ≠ gb311) v8 x8_1) ∧ Aside0 (w'.heap[gb311]? = some (.cells #[.int .i64 a1_0, .int .i64 a1_1, .int .i64 a1_2] 39 (0, 0))) ∧ Aside0 (Below w.heap.size w w'))
 case atStart => exact ⟨(y315), (0), hB, H', ⟨Nat.le_refl _⟩, ⟨rN HO317⟩, ⟨bkA BK311⟩, ⟨blA⟩⟩
 case round =>
  clear H'
  try clear c3
  try clear hcz5_0
  try clear hcz5_1
  try clear hcz5_2
  try clear hfz5_0
  try clear hfz5_1
  try clear hfz5_2
  obtain ⟨x8_1, x21_1, rfl, HA, HK1, HO_8, BK311, HB⟩ := hrel
  cases gk with
  | zero => exact absurd HA.out (by simp [impl_spheres.l0])
  | succ k1 =>
   have H := HA.out
   clear HA
   simp only [impl_spheres.l0] at H
   by_cases c11 : x21_1 < a2
   ·
    rw [if_pos c11] at H
    have c11b0 := decide_eq_true c11
    clear c11
    obtain ⟨y318, hy318⟩ : ∃ y_ : List (S39), y_ = (([] : List (S39))) := ⟨_, rfl⟩
    replace H : (if 0 ≤ x21_1 then (if x21_1 < (x8_1.length : Int) then (impl_spheres.l1 k1 a0 x8_1 x21_1 y318 a2 x21_1 (rd_L2 x8_1 x21_1) ((rd_L2 x8_1 x21_1).length : Int) 0 a1_0 a1_1 a1_2) else (none)) else (none)) = some (r1, r2) := by first | (rw [hy318]; with_reducible exact H) | (have H2_ := (Option.bind_some _ _).symm.trans H; rw [hy318]; with_reducible exact H2_) | (have H2_ := (Option.bind_some _ _).symm.trans H; with_reducible exact H2_) | with_reducible exact H | (rw [hy318]; exact H) | exact H
    have Ny318 := Aside0.mk hy318
    clear hy318
    by_cases c12 : 0 ≤ x21_1
    ·
     rw [if_pos c12] at H
     have c12b0 := decide_eq_true c12
     clear c12
     by_cases c13 : x21_1 < (x8_1.length : Int)
     ·
      rw [if_pos c13] at H
      have c13b0 := decide_eq_true c13
      clear c13
      have H' := Aside0.mk H
      clear H
      go_wp2_with (first | ((with_reducible refine gate_dst (N := 24) rfl ?_); refine Kd.R_lit k39 _ 39 ?hg (N := 24) ?hd (xs := ([] : List (S39))) (inner := []) (ok := fun _ => True) (okp := fun _ => True) ?hr ?hp (fun _ hk => hk) trivial (Below.refl _ _) (Nat.le_refl _) (by simp) ?_; (case hd => rfl); (case hg => rfl); (case hr => first | (go_simp; done) | (go_simp; rfl)); (case hp => exact (Reps.none _ _)); intro v319 w14 ho15 hb hg_ hnew_; clear hg_ hnew_; (first | rw [← Ny318.out] at ho15 | (simp only [Int.reduceToNat] at ho15; rw [← Ny318.out] at ho15)); have HO320 := Aside0.mk (Kd.R_lower (Kd.R_newB (Kd.R_newM (M := fun k_ => (w.heap.size ≤ k_)) ho15 (below_size blA) (fun k_ h_ => h_)) (bkA BK311)) (below_size blA)); replace HO_8 := Aside0.mk (Kd.N_elder' (rN HO_8) (Kd.R_base ho15) hb); replace BK311 := kB BK311 hb; replace HB := lB hb; clear hb ho15; obtain ⟨Ao16, co16, eo16⟩ := Kd.N_slice HO_8.out; subst eo16; have p321 : 0 ≤ (x21_1 : Int) := dA; have q321 : x21_1 < (x8_1.length : Int) := dA; obtain ⟨ad321, A321_0, c321_0, e321, hx321_0, hl321_0, hi321_0⟩ := at_L2 (Kd.N_reads' HO_8.out).2.2 x21_1 p321 q321; cases e321; obtain ⟨ce321, hce321, hMe321, hcc321⟩ := Kd.N_get HO_8.out [] x21_1 p321 (by first | exact q321 | exact dA | (have e_ := (Kd.N_reads' HO_8.out).1; omega)); obtain ⟨ua321_0, uc321_0, rfl, ul321_0, ge321_0⟩ := Kd.FK_slice_open hMe321; have hv321_0 := hcc321 0 _ rfl; rw [Nat.add_zero, show ((Kd.slice 39 k39)).sz = 1 from rfl, Nat.mul_one] at hv321_0; replace hv321_0 := Option.some.inj (hv321_0.symm.trans hx321_0); injection hv321_0 with hva_ hvn_ hvc_; rw [hva_] at ge321_0; rw [hvc_] at ul321_0; have HL321_0 := Aside0.mk (show Kd.V k39 39 _ w.heap.size _ _ (rd_L2 x8_1 x21_1) from Kd.V_mk ul321_0 ge321_0); clear hva_ hvn_ hvc_ ge321_0 ul321_0; clear hcc321 hce321; have HR321_0 := Aside0.mk hi321_0; have HC321_0 := Aside0.mk hl321_0; clear hi321_0 hl321_0; replace p321 := eq_true p321; replace q321 := eq_true q321))
      go_loopg [10, 30] k1 (fun kq v10 v30 w' => ∃ (x10_2 : List (S39)) (x30_2 : Int), v30 = .int .i64 x30_2 ∧ Aside0 (impl_spheres.l1 kq a0 x8_1 x21_1 x10_2 a2 x21_1 (rd_L2 x8_1 x21_1) ((rd_L2 x8_1 x21_1).length : Int) x30_2 a1_0 a1_1 a1_2 = some (r1, r2)) ∧ Aside0 (kq ≤ k1) ∧ Aside0 (Kd.N (Kd.slice 39 k39) 36 w' w.heap.size (fun k_ => (w.heap.size ≤ k_) ∧ some k_ ≠ (v10 : Value).ownBlock ∧ k_ ≠ gb311) (.slice (some ad321) x8_1.length co16) x8_1) ∧ Aside0 (Kd.R k39 39 w' w.heap.size (fun k_ => (w.heap.size ≤ k_) ∧ k_ ≠ gb311) v10 x10_2) ∧ Aside0 (Kd.V k39 39 w' w.heap.size (fun k_ => (w.heap.size ≤ k_) ∧ some k_ ≠ ((.slice (some ad321) x8_1.length co16) : Value).ownBlock ∧ some k_ ≠ (v10 : Value).ownBlock ∧ k_ ≠ gb311) (.slice A321_0 (rd_L2 x8_1 x21_1).length c321_0) (rd_L2 x8_1 x21_1)) ∧ Aside0 (w'.heap[gb311]? = some (.cells #[.int .i64 a1_0, .int .i64 a1_1, .int .i64 a1_2] 39 (0, 0))) ∧ Aside0 (Below w.heap.size w w'))
      case atStart => exact ⟨(y318), (0), hB, H', ⟨Nat.le_refl _⟩, ⟨by (with_reducible repeat (first | apply Kd.N_alloc | apply Kd.N_drewN | apply Kd.N_drew)); exact Kd.N_mono HO_8.out (fun _ hk => ⟨hk.1.1, ⟨hk.2, hk.1.2⟩⟩)⟩, ⟨by (with_reducible repeat (first | apply Kd.R_alloc | apply Kd.R_drewN | apply Kd.R_drew)); exact Kd.R_mono HO320.out (fun _ hk => ⟨hk.1.1, hk.2⟩)⟩, ⟨by (with_reducible repeat (first | apply Kd.V_alloc | apply Kd.V_drewN | apply Kd.V_drew)); exact Kd.V_mono HL321_0.out (fun _ hk => ⟨hk.1.1.1, ⟨hk.2, ⟨hk.1.2, hk.1.1.2⟩⟩⟩)⟩, ⟨bkA BK311⟩, ⟨blA⟩⟩
      case round =>
       clear H'
       try clear c3
       try clear c11
       try clear c11b0
       try clear c12
       try clear c12b0
       try clear c13
       try clear c13b0
       try clear hcz5_0
       try clear hcz5_1
       try clear hcz5_2
       try clear hfz5_0
       try clear hfz5_1
       try clear hfz5_2
       try clear hx321_0
       try clear p321
       try clear q321
       obtain ⟨x10_2, x30_2, rfl, HA, HK2, HO_8, HO_10, HO_28, BK311, HB⟩ := hrel
       cases gk with
       | zero => exact absurd HA.out (by simp [impl_spheres.l1])
       | succ k2 =>
        have H := HA.out
        clear HA
        simp only [impl_spheres.l1] at H
        by_cases c17 : x30_2 < ((rd_L2 x8_1 x21_1).length : Int)
        ·
         rw [if_pos c17] at H
         have c17b0 := decide_eq_true c17
         clear c17
         by_cases c18 : 0 ≤ x30_2
         ·
          rw [if_pos c18] at H
          have c18b0 := decide_eq_true c18
          clear c18
          by_cases c19 : x30_2 < ((rd_L2 x8_1 x21_1).length : Int)
          ·
           rw [if_pos c19] at H
           have c19b0 := decide_eq_true c19
           clear c19
           replace H := bS H
           obtain ⟨⟨t327, t330⟩, A20, H⟩ := H
           try dsimp only at H
           by_cases c21 : t330 = true
           ·
            subst c21
            rw [if_pos rfl] at H
            try dsimp only at H
            have H' := Aside0.mk H
            clear H
            have p325 : 0 ≤ (x30_2 : Int) := dA
            have q325 : x30_2 < ((rd_L2 x8_1 x21_1).length : Int) := dA
            obtain ⟨ad325, e325, hx325_0, hx325_1, hx325_2⟩ := at_T39 (Kd.V_reads' HO_28.out).2.2 x30_2 p325 q325
            cases e325
            replace p325 := eq_true p325
            replace q325 := eq_true q325
            go_wp2_with (first | ((with_reducible refine gate_dst (N := 12) rfl ?_); refine box_event ?hg (N := 12) ?hd (cs := #[.int .i64 0, .int .i64 0, .int .i64 0]) (t := 39) ?hr ?_; (case hd => rfl); (case hg => rfl); (case hr => first | (go_simp; done) | (go_simp; rfl)); intro gb326 hg w22 hbox hb; have BK326 := Aside0.mk (hbox); have GW326 := sA hg; have GE326 := sA hg; have NB311_326 := nA hg BK311; have NB326_311 := nB hg BK311; replace HO_8 := Aside0.mk (Kd.N_below (Kd.N_elderB (rN HO_8) gb326 (Nat.le_of_eq hg.symm)) hb); replace HO_10 := Aside0.mk (Kd.R_below (Kd.R_elderB (rA HO_10) gb326 (Nat.le_of_eq hg.symm)) hb); replace HO_28 := Aside0.mk (Kd.V_below (Kd.V_elderB (rV HO_28) gb326 (Nat.le_of_eq hg.symm)) hb); replace BK311 := kB BK311 hb; replace HB := lB hb; clear hb hbox hg; have hnb23 := NB326_311.out; have hnc23 := NB311_326.out; have hcz24_0 : w22.cell? ⟨gb326, 0, none⟩ = some (.int .i64 0) := cA BK326 0; have hcz24_1 : w22.cell? ⟨gb326, 1, none⟩ = some (.int .i64 0) := cA BK326 1; have hcz24_2 : w22.cell? ⟨gb326, 2, none⟩ = some (.int .i64 0) := cA BK326 2; have hfz24_0 := blk_frozen BK326.out 0; have hfz24_1 := blk_frozen BK326.out 1; have hfz24_2 := blk_frozen BK326.out 2) | ((with_reducible refine gate_callee (f := 121) rfl ?_); refine goesL_ (some 37) rfl rfl Try.func121 (by kernel_rfl) rfl #[.int .i64 a0, .agg #[.int .i64 ((rd_T39 (rd_L2 x8_1 x21_1) x30_2).f0), .int .i64 ((rd_T39 (rd_L2 x8_1 x21_1) x30_2).f1), .int .i64 ((rd_T39 (rd_L2 x8_1 x21_1) x30_2).f2)], .int .i64 0] rfl hA ?_; (with_reducible refine (impl_someNeighbours.calls k2 a0 ((rd_T39 (rd_L2 x8_1 x21_1) x30_2).f0) ((rd_T39 (rd_L2 x8_1 x21_1) x30_2).f1) ((rd_T39 (rd_L2 x8_1 x21_1) x30_2).f2) 0 t327 true _ A20.out).mono ?_); rintro e w25 ⟨v328, rfl, ho0, hb⟩; refine ⟨_, rfl, ?_⟩; have n0_ := Aside0.mk (Kd.N_elder' (by (with_reducible repeat (first | apply Kd.N_alloc | apply Kd.N_drewN | apply Kd.N_drew)); exact (Kd.N_mono (Kd.N_far (p := ⟨gb326, 2, none⟩) (Kd.N_far (p := ⟨gb326, 1, none⟩) (Kd.N_far (p := ⟨gb326, 0, none⟩) (Kd.N_mono HO_8.out (fun k_ hk => (⟨hk, hk.2⟩ : _ ∧ k_ ≠ gb326))) (fun _ hk => hk.2) (.int .i64 ((rd_T39 (rd_L2 x8_1 x21_1) x30_2).f0))) (fun _ hk => hk.2) (.int .i64 ((rd_T39 (rd_L2 x8_1 x21_1) x30_2).f1))) (fun _ hk => hk.2) (.int .i64 ((rd_T39 (rd_L2 x8_1 x21_1) x30_2).f2))) (fun _ h_ => h_.1))) (Kd.R_base ho0) hb); have n1_ := Aside0.mk (Kd.R_elder' (by (with_reducible repeat (first | apply Kd.R_alloc | apply Kd.R_drewN | apply Kd.R_drew)); exact (Kd.R_mono (Kd.R_far (p := ⟨gb326, 2, none⟩) (Kd.R_far (p := ⟨gb326, 1, none⟩) (Kd.R_far (p := ⟨gb326, 0, none⟩) (Kd.R_mono HO_10.out (fun k_ hk => (⟨hk, hk.2⟩ : _ ∧ k_ ≠ gb326))) (fun _ hk => hk.2) (.int .i64 ((rd_T39 (rd_L2 x8_1 x21_1) x30_2).f0))) (fun _ hk => hk.2) (.int .i64 ((rd_T39 (rd_L2 x8_1 x21_1) x30_2).f1))) (fun _ hk => hk.2) (.int .i64 ((rd_T39 (rd_L2 x8_1 x21_1) x30_2).f2))) (fun _ h_ => h_.1))) (Kd.R_base ho0) hb); have n2_ := Aside0.mk (Kd.V_elder' (by (with_reducible repeat (first | apply Kd.V_alloc | apply Kd.V_drewN | apply Kd.V_drew)); exact (Kd.V_mono (Kd.V_far (p := ⟨gb326, 2, none⟩) (Kd.V_far (p := ⟨gb326, 1, none⟩) (Kd.V_far (p := ⟨gb326, 0, none⟩) (Kd.V_mono HO_28.out (fun k_ hk => (⟨hk, hk.2⟩ : _ ∧ k_ ≠ gb326))) (fun _ hk => hk.2) (.int .i64 ((rd_T39 (rd_L2 x8_1 x21_1) x30_2).f0))) (fun _ hk => hk.2) (.int .i64 ((rd_T39 (rd_L2 x8_1 x21_1) x30_2).f1))) (fun _ hk => hk.2) (.int .i64 ((rd_T39 (rd_L2 x8_1 x21_1) x30_2).f2))) (fun _ h_ => h_.1))) (Kd.R_base ho0) hb); have n3_ := Aside0.mk (Kd.R_lower (Kd.R_newB (Kd.R_newB (Kd.R_new' (Kd.R_newM (M := fun k_ => (w.heap.size ≤ k_)) ho0 (below_size blA) (fun k_ h_ => h_)) (Kd.R_lt (by (with_reducible repeat (first | apply Kd.R_alloc | apply Kd.R_drewN | apply Kd.R_drew)); exact (Kd.R_mono (Kd.R_far (p := ⟨gb326, 2, none⟩) (Kd.R_far (p := ⟨gb326, 1, none⟩) (Kd.R_far (p := ⟨gb326, 0, none⟩) (Kd.R_mono HO_10.out (fun k_ hk => (⟨hk, hk.2⟩ : _ ∧ k_ ≠ gb326))) (fun _ hk => hk.2) (.int .i64 ((rd_T39 (rd_L2 x8_1 x21_1) x30_2).f0))) (fun _ hk => hk.2) (.int .i64 ((rd_T39 (rd_L2 x8_1 x21_1) x30_2).f1))) (fun _ hk => hk.2) (.int .i64 ((rd_T39 (rd_L2 x8_1 x21_1) x30_2).f2))) (fun _ h_ => h_.1))))) (g := gb311) (o := .cells #[.int .i64 a1_0, .int .i64 a1_1, .int .i64 a1_2] 39 (0, 0)) (bkF BK311)) (g := gb326) (o := .cells #[.int .i64 ((rd_T39 (rd_L2 x8_1 x21_1) x30_2).f0), .int .i64 ((rd_T39 (rd_L2 x8_1 x21_1) x30_2).f1), .int .i64 ((rd_T39 (rd_L2 x8_1 x21_1) x30_2).f2)] 39 (0, 0)) (by (with_reducible repeat (first | refine blk_drewN ?_ _ | refine blk_drew ?_ | refine blk_alloc ?_ _)); refine blk_put (cs := #[.int .i64 ((rd_T39 (rd_L2 x8_1 x21_1) x30_2).f0), .int .i64 ((rd_T39 (rd_L2 x8_1 x21_1) x30_2).f1), .int .i64 0]) ?_ 2 _ rfl; (with_reducible repeat (first | refine blk_drewN ?_ _ | refine blk_drew ?_ | refine blk_alloc ?_ _)); refine blk_put (cs := #[.int .i64 ((rd_T39 (rd_L2 x8_1 x21_1) x30_2).f0), .int .i64 0, .int .i64 0]) ?_ 1 _ rfl; (with_reducible repeat (first | refine blk_drewN ?_ _ | refine blk_drew ?_ | refine blk_alloc ?_ _)); refine blk_put (cs := #[.int .i64 0, .int .i64 0, .int .i64 0]) ?_ 0 _ rfl; (with_reducible repeat (first | refine blk_drewN ?_ _ | refine blk_drew ?_ | refine blk_alloc ?_ _)); exact BK326.out)) (below_size blA)); have n4_ := Aside0.mk (blk_below (g := gb311) (o := .cells #[.int .i64 a1_0, .int .i64 a1_1, .int .i64 a1_2] 39 (0, 0)) (bkF BK311) hb); have n5_ := Aside0.mk (blk_below (g := gb326) (o := .cells #[.int .i64 ((rd_T39 (rd_L2 x8_1 x21_1) x30_2).f0), .int .i64 ((rd_T39 (rd_L2 x8_1 x21_1) x30_2).f1), .int .i64 ((rd_T39 (rd_L2 x8_1 x21_1) x30_2).f2)] 39 (0, 0)) (by (with_reducible repeat (first | refine blk_drewN ?_ _ | refine blk_drew ?_ | refine blk_alloc ?_ _)); refine blk_put (cs := #[.int .i64 ((rd_T39 (rd_L2 x8_1 x21_1) x30_2).f0), .int .i64 ((rd_T39 (rd_L2 x8_1 x21_1) x30_2).f1), .int .i64 0]) ?_ 2 _ rfl; (with_reducible repeat (first | refine blk_drewN ?_ _ | refine blk_drew ?_ | refine blk_alloc ?_ _)); refine blk_put (cs := #[.int .i64 ((rd_T39 (rd_L2 x8_1 x21_1) x30_2).f0), .int .i64 0, .int .i64 0]) ?_ 1 _ rfl; (with_reducible repeat (first | refine blk_drewN ?_ _ | refine blk_drew ?_ | refine blk_alloc ?_ _)); refine blk_put (cs := #[.int .i64 0, .int .i64 0, .int .i64 0]) ?_ 0 _ rfl; (with_reducible repeat (first | refine blk_drewN ?_ _ | refine blk_drew ?_ | refine blk_alloc ?_ _)); exact BK326.out) hb); have n6_ := lB hb; clear HO_8; clear HO_10; clear HO_28; clear BK311; clear BK326; clear HB; have HO_8 := n0_; have HO_10 := n1_; have HO_28 := n2_; have HO329 := n3_; have BK311 := n4_; have BK326 := n5_; have HB := n6_; clear n0_ n1_ n2_ n3_ n4_ n5_ n6_; (try clear hb); (try clear hb2); (try clear hk); (try clear hi); (try clear ho0); obtain ⟨Ao26, co26, eo26⟩ := Kd.R_slice HO329.out; subst eo26))
            go_loopg [10, 44] k2 (fun kq v10 v44 w' => ∃ (x10_3 : List (S39)) (x44_3 : Int), v44 = .int .i64 x44_3 ∧ Aside0 (impl_spheres.l2 kq a0 x8_1 x21_1 x10_3 a2 x21_1 (rd_L2 x8_1 x21_1) ((rd_L2 x8_1 x21_1).length : Int) x30_2 t327 (t327.length : Int) x44_3 a1_0 a1_1 a1_2 = some (r1, r2)) ∧ Aside0 (kq ≤ k2) ∧ Aside0 (Kd.N (Kd.slice 39 k39) 36 w' w.heap.size (fun k_ => (w.heap.size ≤ k_) ∧ some k_ ≠ (v10 : Value).ownBlock ∧ some k_ ≠ ((.slice Ao26 t327.length co26) : Value).ownBlock ∧ k_ ≠ gb311 ∧ k_ ≠ gb326) (.slice (some ad321) x8_1.length co16) x8_1) ∧ Aside0 (Kd.R k39 39 w' w.heap.size (fun k_ => (w.heap.size ≤ k_) ∧ some k_ ≠ ((.slice Ao26 t327.length co26) : Value).ownBlock ∧ k_ ≠ gb311 ∧ k_ ≠ gb326) v10 x10_3) ∧ Aside0 (Kd.V k39 39 w' w.heap.size (fun k_ => (w.heap.size ≤ k_) ∧ some k_ ≠ ((.slice (some ad321) x8_1.length co16) : Value).ownBlock ∧ some k_ ≠ (v10 : Value).ownBlock ∧ some k_ ≠ ((.slice Ao26 t327.length co26) : Value).ownBlock ∧ k_ ≠ gb311 ∧ k_ ≠ gb326) (.slice (some ad325) (rd_L2 x8_1 x21_1).length c321_0) (rd_L2 x8_1 x21_1)) ∧ Aside0 (Kd.R k39 39 w' w.heap.size (fun k_ => (w.heap.size ≤ k_) ∧ some k_ ≠ (v10 : Value).ownBlock ∧ k_ ≠ gb311 ∧ k_ ≠ gb326) (.slice Ao26 t327.length co26) t327) ∧ Aside0 (w'.heap[gb311]? = some (.cells #[.int .i64 a1_0, .int .i64 a1_1, .int .i64 a1_2] 39 (0, 0))) ∧ Aside0 (w'.heap[gb326]? = some (.cells #[.int .i64 ((rd_T39 (rd_L2 x8_1 x21_1) x30_2).f0), .int .i64 ((rd_T39 (rd_L2 x8_1 x21_1) x30_2).f1), .int .i64 ((rd_T39 (rd_L2 x8_1 x21_1) x30_2).f2)] 39 (0, 0))) ∧ Aside0 (Below w.heap.size w w'))
            case atStart => exact ⟨(x10_2), (0), hB, H', ⟨Nat.le_refl _⟩, ⟨by (with_reducible repeat (first | apply Kd.N_alloc | apply Kd.N_drewN | apply Kd.N_drew)); exact Kd.N_mono HO_8.out (fun _ hk => ⟨hk.1.1.1, ⟨hk.1.1.2.1, ⟨hk.2, ⟨hk.1.1.2.2, hk.1.2⟩⟩⟩⟩)⟩, ⟨by (with_reducible repeat (first | apply Kd.R_alloc | apply Kd.R_drewN | apply Kd.R_drew)); exact Kd.R_mono HO_10.out (fun _ hk => ⟨hk.1.1.1, ⟨hk.2, ⟨hk.1.1.2, hk.1.2⟩⟩⟩)⟩, ⟨by (with_reducible repeat (first | apply Kd.V_alloc | apply Kd.V_drewN | apply Kd.V_drew)); exact Kd.V_mono HO_28.out (fun _ hk => ⟨hk.1.1.1, ⟨hk.1.1.2.1, ⟨hk.1.1.2.2.1, ⟨hk.2, ⟨hk.1.1.2.2.2, hk.1.2⟩⟩⟩⟩⟩)⟩, ⟨by (with_reducible repeat (first | apply Kd.R_alloc | apply Kd.R_drewN | apply Kd.R_drew)); exact Kd.R_mono HO329.out (fun _ hk => ⟨hk.1.1.1.1, ⟨hk.1.1.2, ⟨hk.1.2, hk.2⟩⟩⟩)⟩, ⟨bkA BK311⟩, ⟨bkA BK326⟩, ⟨blA⟩⟩
            case round =>
             clear H'
             try clear c3
             try clear c11
             try clear c11b0
             try clear c12
             try clear c12b0
             try clear c13
             try clear c13b0
             try clear c17
             try clear c17b0
             try clear c18
             try clear c18b0
             try clear c19
             try clear c19b0
             try clear c21
             try clear hcz24_0
             try clear hcz24_1
             try clear hcz24_2
             try clear hcz5_0
             try clear hcz5_1
             try clear hcz5_2
             try clear hfz24_0
             try clear hfz24_1
             try clear hfz24_2
             try clear hfz5_0
             try clear hfz5_1
             try clear hfz5_2
             try clear hx321_0
             try clear hx325_0
             try clear hx325_1
             try clear hx325_2
             try clear p321
             try clear p325
             try clear q321
             try clear q325
             obtain ⟨x10_3, x44_3, rfl, HA, HK3, HO_8, HO_10, HO_28, HO_42, BK311, BK326, HB⟩ := hrel
             cases gk with
             | zero => exact absurd HA.out (by simp [impl_spheres.l2])
             | succ k3 =>
              have H := HA.out
              clear HA
              simp only [impl_spheres.l2] at H
              by_cases c27 : x44_3 < (t327.length : Int)
              ·
               rw [if_pos c27] at H
               have c27b0 := decide_eq_true c27
               clear c27
               by_cases c28 : 0 ≤ x44_3
               ·
                rw [if_pos c28] at H
                have c28b0 := decide_eq_true c28
                clear c28
                by_cases c29 : x44_3 < (t327.length : Int)
                ·
                 rw [if_pos c29] at H
                 have c29b0 := decide_eq_true c29
                 clear c29
                 replace H := bS H
                 obtain ⟨t333, A30, H⟩ := H
                 try dsimp only at H
                 by_cases c31 : t333 > x21_1
                 ·
                  rw [if_pos c31] at H
                  have c31b0 : decide (x21_1 < t333) = true := decide_eq_true c31
                  clear c31
                  by_cases c32 : x10_3.length < 5864062014805
                  ·
                   rw [if_pos c32] at H
                   have LMc32 := Aside0.mk c32
                   clear c32
                   obtain ⟨y334, hy334⟩ : ∃ y_ : List (S39), y_ = (x10_3 ++ [(⟨(rd_T39 t327 x44_3).f0, (rd_T39 t327 x44_3).f1, (rd_T39 t327 x44_3).f2⟩ : S39)]) := ⟨_, rfl⟩
                   replace H : (impl_spheres.l2 k3 a0 x8_1 x21_1 y334 a2 x21_1 (rd_L2 x8_1 x21_1) ((rd_L2 x8_1 x21_1).length : Int) x30_2 t327 (t327.length : Int) (wrap64 (x44_3 + 1)) a1_0 a1_1 a1_2) = some (r1, r2) := by first | (rw [hy334]; with_reducible exact H) | (have H2_ := (Option.bind_some _ _).symm.trans H; rw [hy334]; with_reducible exact H2_) | (have H2_ := (Option.bind_some _ _).symm.trans H; with_reducible exact H2_) | with_reducible exact H | (rw [hy334]; exact H) | exact H
                   have Ny334 := Aside0.mk hy334
                   clear hy334
                   have H' := Aside0.mk H
                   clear H
                   have p331 : 0 ≤ (x44_3 : Int) := dA
                   have q331 : x44_3 < (t327.length : Int) := dA
                   obtain ⟨ad331, e331, hx331_0, hx331_1, hx331_2⟩ := at_T39 (Kd.R_reads' HO_42.out).2.2 x44_3 p331 q331
                   cases e331
                   replace p331 := eq_true p331
                   replace q331 := eq_true q331
                   go_wp2_with (first | ((with_reducible refine gate_dst (N := 16) rfl ?_); refine box_event ?hg (N := 16) ?hd (cs := #[.int .i64 0, .int .i64 0, .int .i64 0]) (t := 39) ?hr ?_; (case hd => rfl); (case hg => rfl); (case hr => first | (go_simp; done) | (go_simp; rfl)); intro gb332 hg w33 hbox hb; have BK332 := Aside0.mk (hbox); have GW332 := sA hg; have GE332 := sA hg; have NB311_332 := nA hg BK311; have NB332_311 := nB hg BK311; have NB326_332 := nA hg BK326; have NB332_326 := nB hg BK326; replace HO_8 := Aside0.mk (Kd.N_below (Kd.N_elderB (rN HO_8) gb332 (Nat.le_of_eq hg.symm)) hb); replace HO_10 := Aside0.mk (Kd.R_below (Kd.R_elderB (rA HO_10) gb332 (Nat.le_of_eq hg.symm)) hb); replace HO_28 := Aside0.mk (Kd.V_below (Kd.V_elderB (rV HO_28) gb332 (Nat.le_of_eq hg.symm)) hb); replace HO_42 := Aside0.mk (Kd.R_below (Kd.R_elderB (rA HO_42) gb332 (Nat.le_of_eq hg.symm)) hb); replace BK311 := kB BK311 hb; replace BK326 := kB BK326 hb; replace HB := lB hb; clear hb hbox hg; have hnb34 := NB332_311.out; have hnc34 := NB311_332.out; have hnb35 := NB332_326.out; have hnc35 := NB326_332.out; have hcz36_0 : w33.cell? ⟨gb332, 0, none⟩ = some (.int .i64 0) := cA BK332 0; have hcz36_1 : w33.cell? ⟨gb332, 1, none⟩ = some (.int .i64 0) := cA BK332 1; have hcz36_2 : w33.cell? ⟨gb332, 2, none⟩ = some (.int .i64 0) := cA BK332 2; have hfz36_0 := blk_frozen BK332.out 0; have hfz36_1 := blk_frozen BK332.out 1; have hfz36_2 := blk_frozen BK332.out 2; have hnb37 := NB311_326.out; have hnc37 := NB326_311.out; have hcz38_0 : w33.cell? ⟨gb311, 0, none⟩ = some (.int .i64 a1_0) := cA BK311 0; have hcz38_1 : w33.cell? ⟨gb311, 1, none⟩ = some (.int .i64 a1_1) := cA BK311 1; have hcz38_2 : w33.cell? ⟨gb311, 2, none⟩ = some (.int .i64 a1_2) := cA BK311 2; have hfz38_0 := blk_frozen BK311.out 0; have hfz38_1 := blk_frozen BK311.out 1; have hfz38_2 := blk_frozen BK311.out 2) | ((with_reducible refine gate_callee (f := 96) rfl ?_); refine goesL_ (some 51) rfl rfl Try.func96 (by kernel_rfl) rfl #[.int .i64 a0, .agg #[.int .i64 a1_0, .int .i64 a1_1, .int .i64 a1_2], .agg #[.int .i64 ((rd_T39 t327 x44_3).f0), .int .i64 ((rd_T39 t327 x44_3).f1), .int .i64 ((rd_T39 t327 x44_3).f2)]] rfl hA ?_; (with_reducible refine (impl_distance.calls k3 a0 a1_0 a1_1 a1_2 ((rd_T39 t327 x44_3).f0) ((rd_T39 t327 x44_3).f1) ((rd_T39 t327 x44_3).f2) t333 _ A30.out).mono ?_); rintro e w39 ⟨rfl, hb⟩; refine ⟨_, rfl, ?_⟩; have n0_ := Aside0.mk (Kd.N_below (by (with_reducible repeat (first | apply Kd.N_alloc | apply Kd.N_drewN | apply Kd.N_drew)); exact (Kd.N_mono (Kd.N_far (p := ⟨gb332, 2, none⟩) (Kd.N_far (p := ⟨gb332, 1, none⟩) (Kd.N_far (p := ⟨gb332, 0, none⟩) (Kd.N_mono HO_8.out (fun k_ hk => (⟨hk, hk.2⟩ : _ ∧ k_ ≠ gb332))) (fun _ hk => hk.2) (.int .i64 ((rd_T39 t327 x44_3).f0))) (fun _ hk => hk.2) (.int .i64 ((rd_T39 t327 x44_3).f1))) (fun _ hk => hk.2) (.int .i64 ((rd_T39 t327 x44_3).f2))) (fun _ h_ => h_.1))) hb); have n1_ := Aside0.mk (Kd.R_below (by (with_reducible repeat (first | apply Kd.R_alloc | apply Kd.R_drewN | apply Kd.R_drew)); exact (Kd.R_mono (Kd.R_far (p := ⟨gb332, 2, none⟩) (Kd.R_far (p := ⟨gb332, 1, none⟩) (Kd.R_far (p := ⟨gb332, 0, none⟩) (Kd.R_mono HO_10.out (fun k_ hk => (⟨hk, hk.2⟩ : _ ∧ k_ ≠ gb332))) (fun _ hk => hk.2) (.int .i64 ((rd_T39 t327 x44_3).f0))) (fun _ hk => hk.2) (.int .i64 ((rd_T39 t327 x44_3).f1))) (fun _ hk => hk.2) (.int .i64 ((rd_T39 t327 x44_3).f2))) (fun _ h_ => h_.1))) hb); have n2_ := Aside0.mk (Kd.V_below (by (with_reducible repeat (first | apply Kd.V_alloc | apply Kd.V_drewN | apply Kd.V_drew)); exact (Kd.V_mono (Kd.V_far (p := ⟨gb332, 2, none⟩) (Kd.V_far (p := ⟨gb332, 1, none⟩) (Kd.V_far (p := ⟨gb332, 0, none⟩) (Kd.V_mono HO_28.out (fun k_ hk => (⟨hk, hk.2⟩ : _ ∧ k_ ≠ gb332))) (fun _ hk => hk.2) (.int .i64 ((rd_T39 t327 x44_3).f0))) (fun _ hk => hk.2) (.int .i64 ((rd_T39 t327 x44_3).f1))) (fun _ hk => hk.2) (.int .i64 ((rd_T39 t327 x44_3).f2))) (fun _ h_ => h_.1))) hb); have n3_ := Aside0.mk (Kd.R_below (by (with_reducible repeat (first | apply Kd.R_alloc | apply Kd.R_drewN | apply Kd.R_drew)); exact (Kd.R_mono (Kd.R_far (p := ⟨gb332, 2, none⟩) (Kd.R_far (p := ⟨gb332, 1, none⟩) (Kd.R_far (p := ⟨gb332, 0, none⟩) (Kd.R_mono HO_42.out (fun k_ hk => (⟨hk, hk.2⟩ : _ ∧ k_ ≠ gb332))) (fun _ hk => hk.2) (.int .i64 ((rd_T39 t327 x44_3).f0))) (fun _ hk => hk.2) (.int .i64 ((rd_T39 t327 x44_3).f1))) (fun _ hk => hk.2) (.int .i64 ((rd_T39 t327 x44_3).f2))) (fun _ h_ => h_.1))) hb); have n4_ := Aside0.mk (blk_below (g := gb311) (o := .cells #[.int .i64 a1_0, .int .i64 a1_1, .int .i64 a1_2] 39 (0, 0)) (bkF BK311) hb); have n5_ := Aside0.mk (blk_below (g := gb326) (o := .cells #[.int .i64 ((rd_T39 (rd_L2 x8_1 x21_1) x30_2).f0), .int .i64 ((rd_T39 (rd_L2 x8_1 x21_1) x30_2).f1), .int .i64 ((rd_T39 (rd_L2 x8_1 x21_1) x30_2).f2)] 39 (0, 0)) (bkF BK326) hb); have n6_ := Aside0.mk (blk_below (g := gb332) (o := .cells #[.int .i64 ((rd_T39 t327 x44_3).f0), .int .i64 ((rd_T39 t327 x44_3).f1), .int .i64 ((rd_T39 t327 x44_3).f2)] 39 (0, 0)) (by (with_reducible repeat (first | refine blk_drewN ?_ _ | refine blk_drew ?_ | refine blk_alloc ?_ _)); refine blk_put (cs := #[.int .i64 ((rd_T39 t327 x44_3).f0), .int .i64 ((rd_T39 t327 x44_3).f1), .int .i64 0]) ?_ 2 _ rfl; (with_reducible repeat (first | refine blk_drewN ?_ _ | refine blk_drew ?_ | refine blk_alloc ?_ _)); refine blk_put (cs := #[.int .i64 ((rd_T39 t327 x44_3).f0), .int .i64 0, .int .i64 0]) ?_ 1 _ rfl; (with_reducible repeat (first | refine blk_drewN ?_ _ | refine blk_drew ?_ | refine blk_alloc ?_ _)); refine blk_put (cs := #[.int .i64 0, .int .i64 0, .int .i64 0]) ?_ 0 _ rfl; (with_reducible repeat (first | refine blk_drewN ?_ _ | refine blk_drew ?_ | refine blk_alloc ?_ _)); exact BK332.out) hb); have n7_ := lB hb; clear HO_8; clear HO_10; clear HO_28; clear HO_42; clear BK311; clear BK326; clear BK332; clear HB; have HO_8 := n0_; have HO_10 := n1_; have HO_28 := n2_; have HO_42 := n3_; have BK311 := n4_; have BK326 := n5_; have BK332 := n6_; have HB := n7_; clear n0_ n1_ n2_ n3_ n4_ n5_ n6_ n7_; (try clear hb); (try clear hb2); (try clear hk); (try clear hi); have hcz40_0 : w39.cell? ⟨gb332, 0, none⟩ = some (.int .i64 ((rd_T39 t327 x44_3).f0)) := cA BK332 0; have hcz40_1 : w39.cell? ⟨gb332, 1, none⟩ = some (.int .i64 ((rd_T39 t327 x44_3).f1)) := cA BK332 1; have hcz40_2 : w39.cell? ⟨gb332, 2, none⟩ = some (.int .i64 ((rd_T39 t327 x44_3).f2)) := cA BK332 2; have hfz40_0 := blk_frozen BK332.out 0; have hfz40_1 := blk_frozen BK332.out 1; have hfz40_2 := blk_frozen BK332.out 2) | ((with_reducible refine gate_builtin (b := .append) (xs := #[.tmp 54, .tmp 56]) rfl ?_); at_builtin; refine Kd.R_append k39 (w0 := w) w.heap.size rfl (.tmp 54) (.tmp 56) 36 39 (.agg #[(.int .i64 0), (.int .i64 0), (.int .i64 0)]) 24 rfl Try.underlying36 info39 rfl (by decide) (by omega) u10 x10_3 (⟨(rd_T39 t327 x44_3).f0, (rd_T39 t327 x44_3).f1, (rd_T39 t327 x44_3).f2⟩ : S39) [.int .i64 ((rd_T39 t327 x44_3).f0), .int .i64 ((rd_T39 t327 x44_3).f1), .int .i64 ((rd_T39 t327 x44_3).f2)] (fun k_ => (w.heap.size ≤ k_) ∧ some k_ ≠ (.slice (some ad331) t327.length co26 : Value).ownBlock ∧ k_ ≠ gb311 ∧ k_ ≠ gb326 ∧ k_ ≠ gb332) (fun _ => False) rfl rfl ?aP (fun _ hk => hk.elim) ?aF ?aO ?aB ?aS ?aL ?_; (case aP => exact k39_mkM _ _ _ (⟨(rd_T39 t327 x44_3).f0, (rd_T39 t327 x44_3).f1, (rd_T39 t327 x44_3).f2⟩ : S39)); (case aB => exact blA); (case aF => exact (fun k_ hk => ⟨(Nat.le_trans (below_size blA) hk), Kd.fresh' (Kd.R_lt (rA HO_42)) k_ hk, Kd.freshB (bkA BK311) k_ hk, Kd.freshB (bkA BK326) k_ hk, Kd.freshB (bkA BK332) k_ hk⟩)); (case aO => exact (by (with_reducible repeat (first | apply Kd.R_alloc | apply Kd.R_drewN | apply Kd.R_drew)); exact Kd.R_mono HO_10.out (fun _ hk => ⟨hk.1.1, ⟨hk.1.2.1, ⟨hk.1.2.2.1, ⟨hk.1.2.2.2, hk.2⟩⟩⟩⟩))); (case aS => exact (below_size blA)); (case aL => have := LMc32.out; omega); intro v335 w41 ho hb hg hat; rw [← Ny334.out] at ho; have HO336 := Aside0.mk (ho); replace HO_8 := Aside0.mk (Kd.N_afterv (ok := (fun k_ => (w.heap.size ≤ k_) ∧ some k_ ≠ (.slice (some ad331) t327.length co26 : Value).ownBlock ∧ k_ ≠ gb311 ∧ k_ ≠ gb326 ∧ k_ ≠ gb332)) (by (with_reducible repeat (first | apply Kd.N_alloc | apply Kd.N_drewN | apply Kd.N_drew)); exact Kd.N_mono HO_8.out (fun _ hk => ⟨⟨hk.1.1, ⟨hk.1.2.2.1, ⟨hk.1.2.2.2.1, ⟨hk.1.2.2.2.2, hk.2⟩⟩⟩⟩, hk.1.2.1⟩)) hg hat); replace HO_28 := Aside0.mk (Kd.V_afterv (ok := (fun k_ => (w.heap.size ≤ k_) ∧ some k_ ≠ (.slice (some ad321) x8_1.length co16 : Value).ownBlock ∧ some k_ ≠ (.slice (some ad331) t327.length co26 : Value).ownBlock ∧ k_ ≠ gb311 ∧ k_ ≠ gb326 ∧ k_ ≠ gb332)) (by (with_reducible repeat (first | apply Kd.V_alloc | apply Kd.V_drewN | apply Kd.V_drew)); exact Kd.V_mono HO_28.out (fun _ hk => ⟨⟨hk.1.1, ⟨hk.1.2.1, ⟨hk.1.2.2.2.1, ⟨hk.1.2.2.2.2.1, ⟨hk.1.2.2.2.2.2, hk.2⟩⟩⟩⟩⟩, hk.1.2.2.1⟩)) hg hat); replace HO_42 := Aside0.mk (Kd.R_after (ok := (fun k_ => (w.heap.size ≤ k_) ∧ k_ ≠ gb311 ∧ k_ ≠ gb326 ∧ k_ ≠ gb332)) (by (with_reducible repeat (first | apply Kd.R_alloc | apply Kd.R_drewN | apply Kd.R_drew)); exact Kd.R_mono HO_42.out (fun _ hk => ⟨⟨hk.1.1, ⟨hk.1.2.2.1, ⟨hk.1.2.2.2, hk.2⟩⟩⟩, hk.1.2.1⟩)) hg hat); replace BK311 := Aside0.mk (blk_grown (bkA BK311) hg (Kd.R_away HO_10.out (fun _ hk => hk.1.2.2.1))); replace BK326 := Aside0.mk (blk_grown (bkA BK326) hg (Kd.R_away HO_10.out (fun _ hk => hk.1.2.2.2))); replace BK332 := Aside0.mk (blk_grown (bkA BK332) hg (Kd.R_away HO_10.out (fun _ hk => hk.2))); replace HB := Aside0.mk (hb); clear HO_10; clear ho hb hg hat))
                   go_roundg k3
                   case measure => have := HK1.out; have := HK2.out; have := HK3.out; omega
                   case rel => exact ⟨(y334), (wrap64 (x44_3 + 1)), hB, H', ⟨by have := HK1.out; have := HK2.out; have := HK3.out; omega⟩, ⟨by (with_reducible repeat (first | apply Kd.N_alloc | apply Kd.N_drewN | apply Kd.N_drew)); exact Kd.N_mono HO_8.out (fun _ hk => ⟨hk.1.1, ⟨hk.2, ⟨hk.1.2.1, ⟨hk.1.2.2.1, hk.1.2.2.2.1⟩⟩⟩⟩)⟩, ⟨by (with_reducible repeat (first | apply Kd.R_alloc | apply Kd.R_drewN | apply Kd.R_drew)); exact Kd.R_mono HO336.out (fun _ hk => ⟨hk.1, ⟨hk.2.1, ⟨hk.2.2.1, hk.2.2.2.1⟩⟩⟩)⟩, ⟨by (with_reducible repeat (first | apply Kd.V_alloc | apply Kd.V_drewN | apply Kd.V_drew)); exact Kd.V_mono HO_28.out (fun _ hk => ⟨hk.1.1, ⟨hk.1.2.1, ⟨hk.2, ⟨hk.1.2.2.1, ⟨hk.1.2.2.2.1, hk.1.2.2.2.2.1⟩⟩⟩⟩⟩)⟩, ⟨by (with_reducible repeat (first | apply Kd.R_alloc | apply Kd.R_drewN | apply Kd.R_drew)); exact Kd.R_mono HO_42.out (fun _ hk => ⟨hk.1.1, ⟨hk.2, ⟨hk.1.2.1, hk.1.2.2.1⟩⟩⟩)⟩, ⟨bkA BK311⟩, ⟨bkA BK326⟩, ⟨blA⟩⟩
                  ·
                   rw [if_neg c32] at H
                   exact absurd H (by simp)
                 ·
                  rw [if_neg c31] at H
                  have c31b0 : decide (x21_1 < t333) = false := decide_eq_false c31
                  clear c31
                  have H' := Aside0.mk H
                  clear H
                  have p331 : 0 ≤ (x44_3 : Int) := dA
                  have q331 : x44_3 < (t327.length : Int) := dA
                  obtain ⟨ad331, e331, hx331_0, hx331_1, hx331_2⟩ := at_T39 (Kd.R_reads' HO_42.out).2.2 x44_3 p331 q331
                  cases e331
                  replace p331 := eq_true p331
                  replace q331 := eq_true q331
                  go_wp2_with (first | ((with_reducible refine gate_dst (N := 16) rfl ?_); refine box_event ?hg (N := 16) ?hd (cs := #[.int .i64 0, .int .i64 0, .int .i64 0]) (t := 39) ?hr ?_; (case hd => rfl); (case hg => rfl); (case hr => first | (go_simp; done) | (go_simp; rfl)); intro gb332 hg w42 hbox hb; have BK332 := Aside0.mk (hbox); have GW332 := sA hg; have GE332 := sA hg; have NB311_332 := nA hg BK311; have NB332_311 := nB hg BK311; have NB326_332 := nA hg BK326; have NB332_326 := nB hg BK326; replace HO_8 := Aside0.mk (Kd.N_below (Kd.N_elderB (rN HO_8) gb332 (Nat.le_of_eq hg.symm)) hb); replace HO_10 := Aside0.mk (Kd.R_below (Kd.R_elderB (rA HO_10) gb332 (Nat.le_of_eq hg.symm)) hb); replace HO_28 := Aside0.mk (Kd.V_below (Kd.V_elderB (rV HO_28) gb332 (Nat.le_of_eq hg.symm)) hb); replace HO_42 := Aside0.mk (Kd.R_below (Kd.R_elderB (rA HO_42) gb332 (Nat.le_of_eq hg.symm)) hb); replace BK311 := kB BK311 hb; replace BK326 := kB BK326 hb; replace HB := lB hb; clear hb hbox hg; have hnb43 := NB332_311.out; have hnc43 := NB311_332.out; have hnb44 := NB332_326.out; have hnc44 := NB326_332.out; have hcz45_0 : w42.cell? ⟨gb332, 0, none⟩ = some (.int .i64 0) := cA BK332 0; have hcz45_1 : w42.cell? ⟨gb332, 1, none⟩ = some (.int .i64 0) := cA BK332 1; have hcz45_2 : w42.cell? ⟨gb332, 2, none⟩ = some (.int .i64 0) := cA BK332 2; have hfz45_0 := blk_frozen BK332.out 0; have hfz45_1 := blk_frozen BK332.out 1; have hfz45_2 := blk_frozen BK332.out 2; have hnb46 := NB311_326.out; have hnc46 := NB326_311.out; have hcz47_0 : w42.cell? ⟨gb311, 0, none⟩ = some (.int .i64 a1_0) := cA BK311 0; have hcz47_1 : w42.cell? ⟨gb311, 1, none⟩ = some (.int .i64 a1_1) := cA BK311 1; have hcz47_2 : w42.cell? ⟨gb311, 2, none⟩ = some (.int .i64 a1_2) := cA BK311 2; have hfz47_0 := blk_frozen BK311.out 0; have hfz47_1 := blk_frozen BK311.out 1; have hfz47_2 := blk_frozen BK311.out 2) | ((with_reducible refine gate_callee (f := 96) rfl ?_); refine goesL_ (some 51) rfl rfl Try.func96 (by kernel_rfl) rfl #[.int .i64 a0, .agg #[.int .i64 a1_0, .int .i64 a1_1, .int .i64 a1_2], .agg #[.int .i64 ((rd_T39 t327 x44_3).f0), .int .i64 ((rd_T39 t327 x44_3).f1), .int .i64 ((rd_T39 t327 x44_3).f2)]] rfl hA ?_; (with_reducible refine (impl_distance.calls k3 a0 a1_0 a1_1 a1_2 ((rd_T39 t327 x44_3).f0) ((rd_T39 t327 x44_3).f1) ((rd_T39 t327 x44_3).f2) t333 _ A30.out).mono ?_); rintro e w48 ⟨rfl, hb⟩; refine ⟨_, rfl, ?_⟩; have n0_ := Aside0.mk (Kd.N_below (by (with_reducible repeat (first | apply Kd.N_alloc | apply Kd.N_drewN | apply Kd.N_drew)); exact (Kd.N_mono (Kd.N_far (p := ⟨gb332, 2, none⟩) (Kd.N_far (p := ⟨gb332, 1, none⟩) (Kd.N_far (p := ⟨gb332, 0, none⟩) (Kd.N_mono HO_8.out (fun k_ hk => (⟨hk, hk.2⟩ : _ ∧ k_ ≠ gb332))) (fun _ hk => hk.2) (.int .i64 ((rd_T39 t327 x44_3).f0))) (fun _ hk => hk.2) (.int .i64 ((rd_T39 t327 x44_3).f1))) (fun _ hk => hk.2) (.int .i64 ((rd_T39 t327 x44_3).f2))) (fun _ h_ => h_.1))) hb); have n1_ := Aside0.mk (Kd.R_below (by (with_reducible repeat (first | apply Kd.R_alloc | apply Kd.R_drewN | apply Kd.R_drew)); exact (Kd.R_mono (Kd.R_far (p := ⟨gb332, 2, none⟩) (Kd.R_far (p := ⟨gb332, 1, none⟩) (Kd.R_far (p := ⟨gb332, 0, none⟩) (Kd.R_mono HO_10.out (fun k_ hk => (⟨hk, hk.2⟩ : _ ∧ k_ ≠ gb332))) (fun _ hk => hk.2) (.int .i64 ((rd_T39 t327 x44_3).f0))) (fun _ hk => hk.2) (.int .i64 ((rd_T39 t327 x44_3).f1))) (fun _ hk => hk.2) (.int .i64 ((rd_T39 t327 x44_3).f2))) (fun _ h_ => h_.1))) hb); have n2_ := Aside0.mk (Kd.V_below (by (with_reducible repeat (first | apply Kd.V_alloc | apply Kd.V_drewN | apply Kd.V_drew)); exact (Kd.V_mono (Kd.V_far (p := ⟨gb332, 2, none⟩) (Kd.V_far (p := ⟨gb332, 1, none⟩) (Kd.V_far (p := ⟨gb332, 0, none⟩) (Kd.V_mono HO_28.out (fun k_ hk => (⟨hk, hk.2⟩ : _ ∧ k_ ≠ gb332))) (fun _ hk => hk.2) (.int .i64 ((rd_T39 t327 x44_3).f0))) (fun _ hk => hk.2) (.int .i64 ((rd_T39 t327 x44_3).f1))) (fun _ hk => hk.2) (.int .i64 ((rd_T39 t327 x44_3).f2))) (fun _ h_ => h_.1))) hb); have n3_ := Aside0.mk (Kd.R_below (by (with_reducible repeat (first | apply Kd.R_alloc | apply Kd.R_drewN | apply Kd.R_drew)); exact (Kd.R_mono (Kd.R_far (p := ⟨gb332, 2, none⟩) (Kd.R_far (p := ⟨gb332, 1, none⟩) (Kd.R_far (p := ⟨gb332, 0, none⟩) (Kd.R_mono HO_42.out (fun k_ hk => (⟨hk, hk.2⟩ : _ ∧ k_ ≠ gb332))) (fun _ hk => hk.2) (.int .i64 ((rd_T39 t327 x44_3).f0))) (fun _ hk => hk.2) (.int .i64 ((rd_T39 t327 x44_3).f1))) (fun _ hk => hk.2) (.int .i64 ((rd_T39 t327 x44_3).f2))) (fun _ h_ => h_.1))) hb); have n4_ := Aside0.mk (blk_below (g := gb311) (o := .cells #[.int .i64 a1_0, .int .i64 a1_1, .int .i64 a1_2] 39 (0, 0)) (bkF BK311) hb); have n5_ := Aside0.mk (blk_below (g := gb326) (o := .cells #[.int .i64 ((rd_T39 (rd_L2 x8_1 x21_1) x30_2).f0), .int .i64 ((rd_T39 (rd_L2 x8_1 x21_1) x30_2).f1), .int .i64 ((rd_T39 (rd_L2 x8_1 x21_1) x30_2).f2)] 39 (0, 0)) (bkF BK326) hb); have n6_ := Aside0.mk (blk_below (g := gb332) (o := .cells #[.int .i64 ((rd_T39 t327 x44_3).f0), .int .i64 ((rd_T39 t327 x44_3).f1), .int .i64 ((rd_T39 t327 x44_3).f2)] 39 (0, 0)) (by (with_reducible repeat (first | refine blk_drewN ?_ _ | refine blk_drew ?_ | refine blk_alloc ?_ _)); refine blk_put (cs := #[.int .i64 ((rd_T39 t327 x44_3).f0), .int .i64 ((rd_T39 t327 x44_3).f1), .int .i64 0]) ?_ 2 _ rfl; (with_reducible repeat (first | refine blk_drewN ?_ _ | refine blk_drew ?_ | refine blk_alloc ?_ _)); refine blk_put (cs := #[.int .i64 ((rd_T39 t327 x44_3).f0), .int .i64 0, .int .i64 0]) ?_ 1 _ rfl; (with_reducible repeat (first | refine blk_drewN ?_ _ | refine blk_drew ?_ | refine blk_alloc ?_ _)); refine blk_put (cs := #[.int .i64 0, .int .i64 0, .int .i64 0]) ?_ 0 _ rfl; (with_reducible repeat (first | refine blk_drewN ?_ _ | refine blk_drew ?_ | refine blk_alloc ?_ _)); exact BK332.out) hb); have n7_ := lB hb; clear HO_8; clear HO_10; clear HO_28; clear HO_42; clear BK311; clear BK326; clear BK332; clear HB; have HO_8 := n0_; have HO_10 := n1_; have HO_28 := n2_; have HO_42 := n3_; have BK311 := n4_; have BK326 := n5_; have BK332 := n6_; have HB := n7_; clear n0_ n1_ n2_ n3_ n4_ n5_ n6_ n7_; (try clear hb); (try clear hb2); (try clear hk); (try clear hi)))
                  go_roundg k3
                  case measure => have := HK1.out; have := HK2.out; have := HK3.out; omega
                  case rel => exact ⟨(x10_3), (wrap64 (x44_3 + 1)), hB, H', ⟨by have := HK1.out; have := HK2.out; have := HK3.out; omega⟩, ⟨by (with_reducible repeat (first | apply Kd.N_alloc | apply Kd.N_drewN | apply Kd.N_drew)); exact Kd.N_mono HO_8.out (fun _ hk => ⟨hk.1.1, ⟨hk.1.2.1, ⟨hk.1.2.2.1, ⟨hk.1.2.2.2.1, hk.1.2.2.2.2⟩⟩⟩⟩)⟩, ⟨by (with_reducible repeat (first | apply Kd.R_alloc | apply Kd.R_drewN | apply Kd.R_drew)); exact Kd.R_mono HO_10.out (fun _ hk => ⟨hk.1.1, ⟨hk.1.2.1, ⟨hk.1.2.2.1, hk.1.2.2.2⟩⟩⟩)⟩, ⟨by (with_reducible repeat (first | apply Kd.V_alloc | apply Kd.V_drewN | apply Kd.V_drew)); exact Kd.V_mono HO_28.out (fun _ hk => ⟨hk.1.1, ⟨hk.1.2.1, ⟨hk.1.2.2.1, ⟨hk.1.2.2.2.1, ⟨hk.1.2.2.2.2.1, hk.1.2.2.2.2.2⟩⟩⟩⟩⟩)⟩, ⟨by (with_reducible repeat (first | apply Kd.R_alloc | apply Kd.R_drewN | apply Kd.R_drew)); exact Kd.R_mono HO_42.out (fun _ hk => ⟨hk.1.1, ⟨hk.1.2.1, ⟨hk.1.2.2.1, hk.1.2.2.2⟩⟩⟩)⟩, ⟨bkA BK311⟩, ⟨bkA BK326⟩, ⟨blA⟩⟩
                ·
                 rw [if_neg c29] at H
                 exact absurd H (by simp)
               ·
                rw [if_neg c28] at H
                exact absurd H (by simp)
              ·
               rw [if_neg c27] at H
               have c27b0 := decide_eq_false c27
               clear c27
               have H' := Aside0.mk H
               clear H
               go_wp2
               go_roundg k3
               case measure => have := HK1.out; have := HK2.out; have := HK3.out; omega
               case rel => exact ⟨(x10_3), (wrap64 (x30_2 + 1)), hB, H', ⟨by have := HK1.out; have := HK2.out; have := HK3.out; omega⟩, ⟨by (with_reducible repeat (first | apply Kd.N_alloc | apply Kd.N_drewN | apply Kd.N_drew)); exact Kd.N_mono HO_8.out (fun _ hk => ⟨hk.1, ⟨hk.2.1, hk.2.2.2.1⟩⟩)⟩, ⟨by (with_reducible repeat (first | apply Kd.R_alloc | apply Kd.R_drewN | apply Kd.R_drew)); exact Kd.R_mono HO_10.out (fun _ hk => ⟨hk.1, hk.2.2.1⟩)⟩, ⟨by (with_reducible repeat (first | apply Kd.V_alloc | apply Kd.V_drewN | apply Kd.V_drew)); exact Kd.V_mono HO_28.out (fun _ hk => ⟨hk.1, ⟨hk.2.1, ⟨hk.2.2.1, hk.2.2.2.2.1⟩⟩⟩)⟩, ⟨bkA BK311⟩, ⟨blA⟩⟩
           ·
            replace c21 := Bool.eq_false_iff.mpr c21
            subst c21
            rw [if_neg (show ¬ (false = true) by decide)] at H
            try dsimp only at H
            simp only [Option.some.injEq, Prod.mk.injEq] at H
            obtain ⟨rfl, rfl⟩ := H
            have p325 : 0 ≤ (x30_2 : Int) := dA
            have q325 : x30_2 < ((rd_L2 x8_1 x21_1).length : Int) := dA
            obtain ⟨ad325, e325, hx325_0, hx325_1, hx325_2⟩ := at_T39 (Kd.V_reads' HO_28.out).2.2 x30_2 p325 q325
            cases e325
            replace p325 := eq_true p325
            replace q325 := eq_true q325
            go_wp2_with (first | ((with_reducible refine gate_dst (N := 12) rfl ?_); refine box_event ?hg (N := 12) ?hd (cs := #[.int .i64 0, .int .i64 0, .int .i64 0]) (t := 39) ?hr ?_; (case hd => rfl); (case hg => rfl); (case hr => first | (go_simp; done) | (go_simp; rfl)); intro gb326 hg w49 hbox hb; have BK326 := Aside0.mk (hbox); have GW326 := sA hg; have GE326 := sA hg; have NB311_326 := nA hg BK311; have NB326_311 := nB hg BK311; replace HO_8 := Aside0.mk (Kd.N_below (Kd.N_elderB (rN HO_8) gb326 (Nat.le_of_eq hg.symm)) hb); replace HO_10 := Aside0.mk (Kd.R_below (Kd.R_elderB (rA HO_10) gb326 (Nat.le_of_eq hg.symm)) hb); replace HO_28 := Aside0.mk (Kd.V_below (Kd.V_elderB (rV HO_28) gb326 (Nat.le_of_eq hg.symm)) hb); replace BK311 := kB BK311 hb; replace HB := lB hb; clear hb hbox hg; have hnb50 := NB326_311.out; have hnc50 := NB311_326.out; have hcz51_0 : w49.cell? ⟨gb326, 0, none⟩ = some (.int .i64 0) := cA BK326 0; have hcz51_1 : w49.cell? ⟨gb326, 1, none⟩ = some (.int .i64 0) := cA BK326 1; have hcz51_2 : w49.cell? ⟨gb326, 2, none⟩ = some (.int .i64 0) := cA BK326 2; have hfz51_0 := blk_frozen BK326.out 0; have hfz51_1 := blk_frozen BK326.out 1; have hfz51_2 := blk_frozen BK326.out 2) | ((with_reducible refine gate_callee (f := 121) rfl ?_); refine goesL_ (some 37) rfl rfl Try.func121 (by kernel_rfl) rfl #[.int .i64 a0, .agg #[.int .i64 ((rd_T39 (rd_L2 x8_1 x21_1) x30_2).f0), .int .i64 ((rd_T39 (rd_L2 x8_1 x21_1) x30_2).f1), .int .i64 ((rd_T39 (rd_L2 x8_1 x21_1) x30_2).f2)], .int .i64 0] rfl hA ?_; (with_reducible refine (impl_someNeighbours.calls k2 a0 ((rd_T39 (rd_L2 x8_1 x21_1) x30_2).f0) ((rd_T39 (rd_L2 x8_1 x21_1) x30_2).f1) ((rd_T39 (rd_L2 x8_1 x21_1) x30_2).f2) 0 t327 false _ A20.out).mono ?_); rintro e w52 ⟨v328, rfl, ho0, hb⟩; refine ⟨_, rfl, ?_⟩; have n0_ := Aside0.mk (Kd.N_elder' (by (with_reducible repeat (first | apply Kd.N_alloc | apply Kd.N_drewN | apply Kd.N_drew)); exact (Kd.N_mono (Kd.N_far (p := ⟨gb326, 2, none⟩) (Kd.N_far (p := ⟨gb326, 1, none⟩) (Kd.N_far (p := ⟨gb326, 0, none⟩) (Kd.N_mono HO_8.out (fun k_ hk => (⟨hk, hk.2⟩ : _ ∧ k_ ≠ gb326))) (fun _ hk => hk.2) (.int .i64 ((rd_T39 (rd_L2 x8_1 x21_1) x30_2).f0))) (fun _ hk => hk.2) (.int .i64 ((rd_T39 (rd_L2 x8_1 x21_1) x30_2).f1))) (fun _ hk => hk.2) (.int .i64 ((rd_T39 (rd_L2 x8_1 x21_1) x30_2).f2))) (fun _ h_ => h_.1))) (Kd.R_base ho0) hb); have n1_ := Aside0.mk (Kd.R_elder' (by (with_reducible repeat (first | apply Kd.R_alloc | apply Kd.R_drewN | apply Kd.R_drew)); exact (Kd.R_mono (Kd.R_far (p := ⟨gb326, 2, none⟩) (Kd.R_far (p := ⟨gb326, 1, none⟩) (Kd.R_far (p := ⟨gb326, 0, none⟩) (Kd.R_mono HO_10.out (fun k_ hk => (⟨hk, hk.2⟩ : _ ∧ k_ ≠ gb326))) (fun _ hk => hk.2) (.int .i64 ((rd_T39 (rd_L2 x8_1 x21_1) x30_2).f0))) (fun _ hk => hk.2) (.int .i64 ((rd_T39 (rd_L2 x8_1 x21_1) x30_2).f1))) (fun _ hk => hk.2) (.int .i64 ((rd_T39 (rd_L2 x8_1 x21_1) x30_2).f2))) (fun _ h_ => h_.1))) (Kd.R_base ho0) hb); have n2_ := Aside0.mk (Kd.V_elder' (by (with_reducible repeat (first | apply Kd.V_alloc | apply Kd.V_drewN | apply Kd.V_drew)); exact (Kd.V_mono (Kd.V_far (p := ⟨gb326, 2, none⟩) (Kd.V_far (p := ⟨gb326, 1, none⟩) (Kd.V_far (p := ⟨gb326, 0, none⟩) (Kd.V_mono HO_28.out (fun k_ hk => (⟨hk, hk.2⟩ : _ ∧ k_ ≠ gb326))) (fun _ hk => hk.2) (.int .i64 ((rd_T39 (rd_L2 x8_1 x21_1) x30_2).f0))) (fun _ hk => hk.2) (.int .i64 ((rd_T39 (rd_L2 x8_1 x21_1) x30_2).f1))) (fun _ hk => hk.2) (.int .i64 ((rd_T39 (rd_L2 x8_1 x21_1) x30_2).f2))) (fun _ h_ => h_.1))) (Kd.R_base ho0) hb); have n3_ := Aside0.mk (Kd.R_lower (Kd.R_newB (Kd.R_newB (Kd.R_new' (Kd.R_newM (M := fun k_ => (w.heap.size ≤ k_)) ho0 (below_size blA) (fun k_ h_ => h_)) (Kd.R_lt (by (with_reducible repeat (first | apply Kd.R_alloc | apply Kd.R_drewN | apply Kd.R_drew)); exact (Kd.R_mono (Kd.R_far (p := ⟨gb326, 2, none⟩) (Kd.R_far (p := ⟨gb326, 1, none⟩) (Kd.R_far (p := ⟨gb326, 0, none⟩) (Kd.R_mono HO_10.out (fun k_ hk => (⟨hk, hk.2⟩ : _ ∧ k_ ≠ gb326))) (fun _ hk => hk.2) (.int .i64 ((rd_T39 (rd_L2 x8_1 x21_1) x30_2).f0))) (fun _ hk => hk.2) (.int .i64 ((rd_T39 (rd_L2 x8_1 x21_1) x30_2).f1))) (fun _ hk => hk.2) (.int .i64 ((rd_T39 (rd_L2 x8_1 x21_1) x30_2).f2))) (fun _ h_ => h_.1))))) (g := gb311) (o := .cells #[.int .i64 a1_0, .int .i64 a1_1, .int .i64 a1_2] 39 (0, 0)) (bkF BK311)) (g := gb326) (o := .cells #[.int .i64 ((rd_T39 (rd_L2 x8_1 x21_1) x30_2).f0), .int .i64 ((rd_T39 (rd_L2 x8_1 x21_1) x30_2).f1), .int .i64 ((rd_T39 (rd_L2 x8_1 x21_1) x30_2).f2)] 39 (0, 0)) (by (with_reducible repeat (first | refine blk_drewN ?_ _ | refine blk_drew ?_ | refine blk_alloc ?_ _)); refine blk_put (cs := #[.int .i64 ((rd_T39 (rd_L2 x8_1 x21_1) x30_2).f0), .int .i64 ((rd_T39 (rd_L2 x8_1 x21_1) x30_2).f1), .int .i64 0]) ?_ 2 _ rfl; (with_reducible repeat (first | refine blk_drewN ?_ _ | refine blk_drew ?_ | refine blk_alloc ?_ _)); refine blk_put (cs := #[.int .i64 ((rd_T39 (rd_L2 x8_1 x21_1) x30_2).f0), .int .i64 0, .int .i64 0]) ?_ 1 _ rfl; (with_reducible repeat (first | refine blk_drewN ?_ _ | refine blk_drew ?_ | refine blk_alloc ?_ _)); refine blk_put (cs := #[.int .i64 0, .int .i64 0, .int .i64 0]) ?_ 0 _ rfl; (with_reducible repeat (first | refine blk_drewN ?_ _ | refine blk_drew ?_ | refine blk_alloc ?_ _)); exact BK326.out)) (below_size blA)); have n4_ := Aside0.mk (blk_below (g := gb311) (o := .cells #[.int .i64 a1_0, .int .i64 a1_1, .int .i64 a1_2] 39 (0, 0)) (bkF BK311) hb); have n5_ := Aside0.mk (blk_below (g := gb326) (o := .cells #[.int .i64 ((rd_T39 (rd_L2 x8_1 x21_1) x30_2).f0), .int .i64 ((rd_T39 (rd_L2 x8_1 x21_1) x30_2).f1), .int .i64 ((rd_T39 (rd_L2 x8_1 x21_1) x30_2).f2)] 39 (0, 0)) (by (with_reducible repeat (first | refine blk_drewN ?_ _ | refine blk_drew ?_ | refine blk_alloc ?_ _)); refine blk_put (cs := #[.int .i64 ((rd_T39 (rd_L2 x8_1 x21_1) x30_2).f0), .int .i64 ((rd_T39 (rd_L2 x8_1 x21_1) x30_2).f1), .int .i64 0]) ?_ 2 _ rfl; (with_reducible repeat (first | refine blk_drewN ?_ _ | refine blk_drew ?_ | refine blk_alloc ?_ _)); refine blk_put (cs := #[.int .i64 ((rd_T39 (rd_L2 x8_1 x21_1) x30_2).f0), .int .i64 0, .int .i64 0]) ?_ 1 _ rfl; (with_reducible repeat (first | refine blk_drewN ?_ _ | refine blk_drew ?_ | refine blk_alloc ?_ _)); refine blk_put (cs := #[.int .i64 0, .int .i64 0, .int .i64 0]) ?_ 0 _ rfl; (with_reducible repeat (first | refine blk_drewN ?_ _ | refine blk_drew ?_ | refine blk_alloc ?_ _)); exact BK326.out) hb); have n6_ := lB hb; clear HO_8; clear HO_10; clear HO_28; clear BK311; clear BK326; clear HB; have HO_8 := n0_; have HO_10 := n1_; have HO_28 := n2_; have HO329 := n3_; have BK311 := n4_; have BK326 := n5_; have HB := n6_; clear n0_ n1_ n2_ n3_ n4_ n5_ n6_; (try clear hb); (try clear hb2); (try clear hk); (try clear hi); (try clear ho0)))
            go_ret2
            exact ⟨_, by first | rfl | (simp [errW_none, errW_some] <;> rfl) | (simp [*, errW_none, errW_some] <;> rfl), by first | exact Kd.S_nil _ _ _ _ _ | exact Kd.N_nil _ _ _ _ _ | exact Kd.V_nil _ _ _ _ _ | exact Kd.Q_nil _ _ _ _ _ | exact Kd.R_nil _ _ _ _ _, blA⟩
          ·
           rw [if_neg c19] at H
           exact absurd H (by simp)
         ·
          rw [if_neg c18] at H
          exact absurd H (by simp)
        ·
         rw [if_neg c17] at H
         have c17b0 := decide_eq_false c17
         clear c17
         by_cases c53 : x8_1.length < 5864062014805
         ·
          rw [if_pos c53] at H
          have LMc53 := Aside0.mk c53
          clear c53
          obtain ⟨y322, hy322⟩ : ∃ y_ : List (List (S39)), y_ = (x8_1 ++ [x10_2]) := ⟨_, rfl⟩
          replace H : (impl_spheres.l0 k2 a0 y322 a2 (wrap64 (x21_1 + 1)) a1_0 a1_1 a1_2) = some (r1, r2) := by first | (rw [hy322]; with_reducible exact H) | (have H2_ := (Option.bind_some _ _).symm.trans H; rw [hy322]; with_reducible exact H2_) | (have H2_ := (Option.bind_some _ _).symm.trans H; with_reducible exact H2_) | with_reducible exact H | (rw [hy322]; exact H) | exact H
          have Ny322 := Aside0.mk hy322
          clear hy322
          have H' := Aside0.mk H
          clear H
          obtain ⟨Ao55, co55, eo55⟩ := Kd.R_slice HO_10.out
          subst eo55
          go_wp2_with (first | ((with_reducible refine gate_builtin (b := .append) (xs := #[.tmp 60, .tmp 62]) rfl ?_); at_builtin; refine Kd.N_append (Kd.slice 39 k39) (w0 := w) w.heap.size rfl (.tmp 60) (.tmp 62) 87 36 (.slice none 0 0) 24 rfl Try.underlying87 info36 rfl (by decide) (by omega) (.slice (some ad321) x8_1.length co16) x8_1 x10_2 [.slice Ao55 x10_2.length co55] (fun k_ => (w.heap.size ≤ k_) ∧ k_ ≠ gb311) (fun k_ => ((fun k_ => (w.heap.size ≤ k_) ∧ k_ ≠ gb311)) k_ ∧ some k_ ≠ (.slice (some ad321) x8_1.length co16 : Value).ownBlock) rfl rfl ?aP (fun _ hk => hk) ?aF ?aO ?aB ?aS ?aL ?_; (case aP => exact (Kd.FK_slice_mk (Kd.R_reads' (Kd.R_mono (ok' := (fun k_ => ((fun k_ => (w.heap.size ≤ k_) ∧ k_ ≠ gb311)) k_ ∧ some k_ ≠ (.slice (some ad321) x8_1.length co16 : Value).ownBlock)) (Kd.R_apart' (HO_10.out) (Kd.N_typed HO_8.out) (by decide)) (fun k_ hk => ⟨⟨hk.1.1, hk.1.2⟩, hk.2⟩))).2.1 (Kd.R_F (Kd.R_mono (ok' := (fun k_ => ((fun k_ => (w.heap.size ≤ k_) ∧ k_ ≠ gb311)) k_ ∧ some k_ ≠ (.slice (some ad321) x8_1.length co16 : Value).ownBlock)) (Kd.R_apart' (HO_10.out) (Kd.N_typed HO_8.out) (by decide)) (fun k_ hk => ⟨⟨hk.1.1, hk.1.2⟩, hk.2⟩))))); (case aB => exact blA); (case aF => exact (fun k_ hk => ⟨(Nat.le_trans (below_size blA) hk), Kd.freshB (bkA BK311) k_ hk⟩)); (case aO => exact (by (with_reducible repeat (first | apply Kd.N_alloc | apply Kd.N_drewN | apply Kd.N_drew)); exact Kd.N_mono HO_8.out (fun _ hk => ⟨hk.1, hk.2.2⟩))); (case aS => exact (below_size blA)); (case aL => have := LMc53.out; omega); intro v323 w54 ho hb hg hat; rw [← Ny322.out] at ho; have HO324 := Aside0.mk (ho); replace HO_28 := Aside0.mk (Kd.V_afterv (ok := (fun k_ => (w.heap.size ≤ k_) ∧ some k_ ≠ (.slice Ao55 x10_2.length co55 : Value).ownBlock ∧ k_ ≠ gb311)) (by (with_reducible repeat (first | apply Kd.V_alloc | apply Kd.V_drewN | apply Kd.V_drew)); exact Kd.V_mono HO_28.out (fun _ hk => ⟨⟨hk.1, ⟨hk.2.2.1, hk.2.2.2⟩⟩, hk.2.1⟩)) hg hat); replace BK311 := Aside0.mk (blk_grown (bkA BK311) hg (Kd.N_ne HO_8.out BK311.out (by decide))); replace HB := Aside0.mk (hb); clear HO_8 HO_10; clear ho hb hg hat))
          go_roundg k2
          case measure => have := HK1.out; have := HK2.out; omega
          case rel => exact ⟨(y322), (wrap64 (x21_1 + 1)), hB, H', ⟨by have := HK1.out; have := HK2.out; omega⟩, ⟨rN HO324⟩, ⟨bkA BK311⟩, ⟨blA⟩⟩
         ·
          rw [if_neg c53] at H
          exact absurd H (by simp)
     ·
      rw [if_neg c13] at H
      exact absurd H (by simp)
    ·
     rw [if_neg c12] at H
     exact absurd H (by simp)
   ·
    rw [if_neg c11] at H
    have c11b0 := decide_eq_false c11
    clear c11
    simp only [Option.some.injEq, Prod.mk.injEq] at H
    obtain ⟨rfl, rfl⟩ := H
    go_wp2
    go_ret2
    exact ⟨_, by first | rfl | (simp [errW_none, errW_some] <;> rfl) | (simp [*, errW_none, errW_some] <;> rfl), by (with_reducible repeat (first | apply Kd.N_alloc | apply Kd.N_drewN | apply Kd.N_drew)); exact Kd.N_mono HO_8.out (fun _ hk => hk.1), blA⟩
end Go.Proofs.Ytccpccnnbacgjaa.PAll
