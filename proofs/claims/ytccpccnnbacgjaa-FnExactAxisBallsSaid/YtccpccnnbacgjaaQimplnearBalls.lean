-- turned for this claim out of the kit's print: the same functions, packed anew
import Derived.Test.YtccpccnnbacgjaaQx
import Derived.Test.YtccpccnnbacgjaaQimplmoveBall
import Derived.Test.YtccpccnnbacgjaaQimplneighbour
import Derived.Test.YtccpccnnbacgjaaQimplspheres
namespace Go.Proofs.Ytccpccnnbacgjaa.PAll
open Go.RowKit Go.Proofs.YtccpccnnbacgjaaW.PrintWords Go.Proofs.YtccpccnnbacgjaaW.PrintLast Go.Proofs.YtccpccnnbacgjaaW.PrintMore
attribute [local go_sem] Go.Proofs.Ytccpccnnbacgjaa.Aux.setCell_drewN Go.Proofs.Ytccpccnnbacgjaa.Aux.isSome_setCell max2_int min2_int max_two min_two max_three min_three max_four min_four   -- for this text's walks alone
set_option linter.unusedVariables false
set_option linter.unusedSimpArgs false
/-! ### impl_nearBalls: function 74 -/
mutual
def impl_nearBalls.l0 : Nat → Int → Int → List (S39) → List (List (S39)) → Int → Int → Int → Int → Int → Int → Option ((List (S39)) × Int)
 | 0, _, _, _, _, _, _, _, _, _, _ => none
 | k + 1, x0, x4, x14, x31, x32, x33, x544000, x544001, x544002, x544003 => if x33 < x32 then (if 0 ≤ x33 then (if x33 < (x31.length : Int) then (impl_nearBalls.l1 k x0 x4 x14 x31 x32 x33 (rd_L2 x31 x33) ((rd_L2 x31 x33).length : Int) 0 x544000 x544001 x544002 x544003) else (none)) else (none)) else (some (x14, 0))
def impl_nearBalls.l1 : Nat → Int → Int → List (S39) → List (List (S39)) → Int → Int → List (S39) → Int → Int → Int → Int → Int → Int → Option ((List (S39)) × Int)
 | 0, _, _, _, _, _, _, _, _, _, _, _, _, _ => none
 | k + 1, x0, x4, x14, x31, x32, x33, x37, x38, x39, x544000, x544001, x544002, x544003 => if x39 < x38 then (if 0 ≤ x39 then (if x39 < (x37.length : Int) then ((impl_moveBall.f k x0 x544000 x544001 x544002 x544003 ((rd_T39 x37 x39).f0) ((rd_T39 x37 x39).f1) ((rd_T39 x37 x39).f2)).bind fun bt555 => (if bt555.2.2.2 = true then ((impl_distance.f k x0 ((rd_T39 x37 x39).f0) ((rd_T39 x37 x39).f1) ((rd_T39 x37 x39).f2) bt555.1 bt555.2.1 bt555.2.2.1).bind fun t560 => (if t560 = x4 then (if x14.length < 5864062014805 then (impl_nearBalls.l1 k x0 x4 (x14 ++ [(⟨(rd_T39 x37 x39).f0, (rd_T39 x37 x39).f1, (rd_T39 x37 x39).f2⟩ : S39)]) x31 x32 x33 x37 x38 (wrap64 (x39 + 1)) x544000 x544001 x544002 x544003) else (none)) else (impl_nearBalls.l1 k x0 x4 x14 x31 x32 x33 x37 x38 (wrap64 (x39 + 1)) x544000 x544001 x544002 x544003))) else (some (([] : List (S39)), 3)))) else (none)) else (none)) else (impl_nearBalls.l0 k x0 x4 x14 x31 x32 (wrap64 (x33 + 1)) x544000 x544001 x544002 x544003)
end
def impl_nearBalls.f (k : Nat) (a0 : Int) (a1_0 : Int) (a1_1 : Int) (a1_2 : Int) (a1_3 : Int) (a2_0 : Int) (a2_1 : Int) (a2_2 : Int) (a3 : Int) (a4 : Int) : Option ((List (S39)) × Int) := (impl_spheres.f k a0 a2_0 a2_1 a2_2 a3).bind fun bt545 => (if bt545.2 = true then (impl_nearBalls.l0 k a0 a4 (([] : List (S39))) bt545.1 (bt545.1.length : Int) 0 a1_0 a1_1 a1_2 a1_3) else (some (([] : List (S39)), 3)))
theorem impl_nearBalls.mono_l : ∀ k, (∀ y0 y1 y2 y3 y4 y5 y6 y7 y8 y9, LeO (impl_nearBalls.l0 k y0 y1 y2 y3 y4 y5 y6 y7 y8 y9) (impl_nearBalls.l0 (k + 1) y0 y1 y2 y3 y4 y5 y6 y7 y8 y9)) ∧ (∀ y0 y1 y2 y3 y4 y5 y6 y7 y8 y9 y10 y11 y12, LeO (impl_nearBalls.l1 k y0 y1 y2 y3 y4 y5 y6 y7 y8 y9 y10 y11 y12) (impl_nearBalls.l1 (k + 1) y0 y1 y2 y3 y4 y5 y6 y7 y8 y9 y10 y11 y12))
 | 0 => ⟨fun _ _ _ _ _ _ _ _ _ _ r h => by simp [impl_nearBalls.l0] at h, fun _ _ _ _ _ _ _ _ _ _ _ _ _ r h => by simp [impl_nearBalls.l1] at h⟩
 | k + 1 => by
  obtain ⟨ih0, ih1⟩ := impl_nearBalls.mono_l k
  refine ⟨?_, ?_⟩
  ·
   intro y0 y1 y2 y3 y4 y5 y6 y7 y8 y9
   unfold impl_nearBalls.l0
   repeat' first
   | (with_reducible exact ih0 _ _ _ _ _ _ _ _ _ _)
   | (with_reducible exact ih1 _ _ _ _ _ _ _ _ _ _ _ _ _)
   | (with_reducible exact impl_distance.mono _ _ _ _ _ _ _ _)
   | (with_reducible exact impl_moveBall.mono _ _ _ _ _ _ _ _ _)
   | (with_reducible exact impl_spheres.mono _ _ _ _ _ _)
   | (with_reducible exact LeO.refl _)
   | (with_reducible exact LeO.none _)
   | (with_reducible refine LeO.ite ?_ ?_)
   | (with_reducible refine LeO.bind ?_ (fun _ => ?_))
  ·
   intro y0 y1 y2 y3 y4 y5 y6 y7 y8 y9 y10 y11 y12
   unfold impl_nearBalls.l1
   repeat' first
   | (with_reducible exact ih0 _ _ _ _ _ _ _ _ _ _)
   | (with_reducible exact ih1 _ _ _ _ _ _ _ _ _ _ _ _ _)
   | (with_reducible exact impl_distance.mono _ _ _ _ _ _ _ _)
   | (with_reducible exact impl_moveBall.mono _ _ _ _ _ _ _ _ _)
   | (with_reducible exact impl_spheres.mono _ _ _ _ _ _)
   | (with_reducible exact LeO.refl _)
   | (with_reducible exact LeO.none _)
   | (with_reducible refine LeO.ite ?_ ?_)
   | (with_reducible refine LeO.bind ?_ (fun _ => ?_))
theorem impl_nearBalls.mono : ∀ a0 a1 a2 a3 a4 a5 a6 a7 a8 a9 k, LeO (impl_nearBalls.f k a0 a1 a2 a3 a4 a5 a6 a7 a8 a9) (impl_nearBalls.f (k + 1) a0 a1 a2 a3 a4 a5 a6 a7 a8 a9) := by
 intro a0 a1 a2 a3 a4 a5 a6 a7 a8 a9 k
 obtain ⟨ih0, ih1⟩ := impl_nearBalls.mono_l k
 unfold impl_nearBalls.f
 repeat' first
   | (with_reducible exact ih0 _ _ _ _ _ _ _ _ _ _)
   | (with_reducible exact ih1 _ _ _ _ _ _ _ _ _ _ _ _ _)
   | (with_reducible exact impl_distance.mono _ _ _ _ _ _ _ _)
   | (with_reducible exact impl_moveBall.mono _ _ _ _ _ _ _ _ _)
   | (with_reducible exact impl_spheres.mono _ _ _ _ _ _)
   | (with_reducible exact LeO.refl _)
   | (with_reducible exact LeO.none _)
   | (with_reducible refine LeO.ite ?_ ?_)
   | (with_reducible refine LeO.bind ?_ (fun _ => ?_))
set_option maxHeartbeats 8000000 in
set_option maxRecDepth 100000 in
theorem impl_nearBalls.calls (k : Nat) (a0 : Int) (a1_0 : Int) (a1_1 : Int) (a1_2 : Int) (a1_3 : Int) (a2_0 : Int) (a2_1 : Int) (a2_2 : Int) (a3 : Int) (a4 : Int) (r1 : List (S39)) (r2 : Int) (w : World) (h : impl_nearBalls.f k a0 a1_0 a1_1 a1_2 a1_3 a2_0 a2_1 a2_2 a3 a4 = some (r1, r2)) :
  Calls Try.prog 74 #[.int .i64 a0, .agg #[.int .i64 a1_0, .int .i64 a1_1, .int .i64 a1_2, .int .i64 a1_3], .agg #[.int .i64 a2_0, .int .i64 a2_1, .int .i64 a2_2], .int .i64 a3, .int .i64 a4] w fun e w' => ∃ v0_ : Value, e = .returned (.tuple #[v0_, .int .i64 r2]) ∧ Kd.R k39 39 w' w.heap.size (fun _ => True) v0_ r1 ∧ Below w.heap.size w w' := by
 have hu26 := Try.underlying26
 have hu39 := Try.underlying39
 have HB := Aside0.mk (Below.refl w.heap.size w)
 have H := h
 unfold impl_nearBalls.f at H
 clear h
 replace H := bS H
 obtain ⟨⟨t545, t548⟩, A6, H⟩ := H
 try dsimp only at H
 by_cases c7 : t548 = true
 ·
  subst c7
  rw [if_pos rfl] at H
  try dsimp only at H
  obtain ⟨y549, hy549⟩ : ∃ y_ : List (S39), y_ = (([] : List (S39))) := ⟨_, rfl⟩
  replace H : (impl_nearBalls.l0 k a0 a4 y549 t545 (t545.length : Int) 0 a1_0 a1_1 a1_2 a1_3) = some (r1, r2) := by first | (rw [hy549]; with_reducible exact H) | (have H2_ := (Option.bind_some _ _).symm.trans H; rw [hy549]; with_reducible exact H2_) | (have H2_ := (Option.bind_some _ _).symm.trans H; with_reducible exact H2_) | with_reducible exact H | (rw [hy549]; exact H) | exact H
  have Ny549 := Aside0.mk hy549
  clear hy549
  have H' := Aside0.mk H
  clear H
  go_enter Try.func74, Try.ntmps74
  go_wp2_with (first | ((with_reducible refine gate_dst (N := 6) rfl ?_); refine box_event ?hg (N := 6) ?hd (cs := #[.int .i64 a1_0, .int .i64 a1_1, .int .i64 a1_2, .int .i64 a1_3]) (t := 26) ?hr ?_; (case hd => rfl); (case hg => rfl); (case hr => first | (go_simp; done) | (go_simp; rfl)); intro gb543 hg w8 hbox hb; have BK543 := Aside0.mk (hbox); have GW543 := sA hg; have GE543 := sA hg; replace HB := lB hb; clear hb hbox hg) | ((with_reducible refine gate_dst (N := 7) rfl ?_); refine box_event ?hg (N := 7) ?hd (cs := #[.int .i64 a2_0, .int .i64 a2_1, .int .i64 a2_2]) (t := 39) ?hr ?_; (case hd => rfl); (case hg => rfl); (case hr => first | (go_simp; done) | (go_simp; rfl)); intro gb544 hg w9 hbox hb; have BK544 := Aside0.mk (hbox); have GW544 := sA hg; have GE544 := sA hg; have NB543_544 := nA hg BK543; have NB544_543 := nB hg BK543; replace BK543 := kB BK543 hb; replace HB := lB hb; clear hb hbox hg; have hnb10 := NB544_543.out; have hnc10 := NB543_544.out; have hcz11_0 : w9.cell? ⟨gb544, 0, none⟩ = some (.int .i64 a2_0) := cA BK544 0; have hcz11_1 : w9.cell? ⟨gb544, 1, none⟩ = some (.int .i64 a2_1) := cA BK544 1; have hcz11_2 : w9.cell? ⟨gb544, 2, none⟩ = some (.int .i64 a2_2) := cA BK544 2; have hfz11_0 := blk_frozen BK544.out 0; have hfz11_1 := blk_frozen BK544.out 1; have hfz11_2 := blk_frozen BK544.out 2) | ((with_reducible refine gate_callee (f := 65) rfl ?_); refine goesL_ (some 25) rfl rfl Try.func65 (by kernel_rfl) rfl #[.int .i64 a0, .agg #[.int .i64 a2_0, .int .i64 a2_1, .int .i64 a2_2], .int .i64 a3] rfl hA ?_; (with_reducible refine (impl_spheres.calls k a0 a2_0 a2_1 a2_2 a3 t545 true _ A6.out).mono ?_); rintro e w12 ⟨v546, rfl, ho0, hb⟩; refine ⟨_, rfl, ?_⟩; have HO547 := Aside0.mk (Kd.N_lower (Kd.N_mono (ok' := fun k_ => k_ ≠ gb543 ∧ k_ ≠ gb544) ho0 (fun k_ hk_ => ⟨(Kd.freshB (bkA BK543) k_ hk_), (Kd.freshB (bkA BK544) k_ hk_)⟩)) (below_size blA)); replace BK543 := kB BK543 hb; replace BK544 := kB BK544 hb; replace HB := lB hb; (try clear hb); (try clear hb2); (try clear hk); (try clear hi); (try clear ho0)) | ((with_reducible refine gate_dst (N := 30) rfl ?_); refine Kd.R_lit k39 _ 39 ?hg (N := 30) ?hd (xs := ([] : List (S39))) (inner := []) (ok := fun _ => True) (okp := fun _ => True) ?hr ?hp (fun _ hk => hk) trivial (Below.refl _ _) (Nat.le_refl _) (by simp) ?_; (case hd => rfl); (case hg => rfl); (case hr => first | (go_simp; done) | (go_simp; rfl)); (case hp => exact (Reps.none _ _)); intro v550 w13 ho14 hb hg_ hnew_; clear hg_ hnew_; (first | rw [← Ny549.out] at ho14 | (simp only [Int.reduceToNat] at ho14; rw [← Ny549.out] at ho14)); have HO551 := Aside0.mk (Kd.R_lower (Kd.R_newB ho14 (bkA BK544)) (below_size blA)); replace HO547 := Aside0.mk (Kd.N_elder' (rN HO547) (Kd.R_base ho14) hb); replace BK543 := kB BK543 hb; replace BK544 := kB BK544 hb; replace HB := lB hb; clear hb ho14; obtain ⟨Ao15, co15, eo15⟩ := Kd.N_slice HO547.out; subst eo15))
  go_loopg [14, 33] k (fun kq v14 v33 w' => ∃ (x14_1 : List (S39)) (x33_1 : Int), v33 = .int .i64 x33_1 ∧ Aside0 (impl_nearBalls.l0 kq a0 a4 x14_1 t545 (t545.length : Int) x33_1 a1_0 a1_1 a1_2 a1_3 = some (r1, r2)) ∧ Aside0 (kq ≤ k) ∧ Aside0 (Kd.R k39 39 w' w.heap.size (fun k_ => k_ ≠ gb544) v14 x14_1) ∧ Aside0 (Kd.N (Kd.slice 39 k39) 36 w' w.heap.size (fun k_ => some k_ ≠ (v14 : Value).ownBlock ∧ k_ ≠ gb543 ∧ k_ ≠ gb544) (.slice Ao15 t545.length co15) t545) ∧ Aside0 (w'.heap[gb543]? = some (.cells #[.int .i64 a1_0, .int .i64 a1_1, .int .i64 a1_2, .int .i64 a1_3] 26 (0, 0))) ∧ Aside0 (w'.heap[gb544]? = some (.cells #[.int .i64 a2_0, .int .i64 a2_1, .int .i64 a2_2] 39 (0, 0))) ∧ Aside0 (Below w.heap.size w w'))
  case atStart => exact ⟨(y549), (0), hB, H', ⟨Nat.le_refl _⟩, ⟨by (with_reducible repeat (first | apply Kd.R_alloc | apply Kd.R_drewN | apply Kd.R_drew)); exact Kd.R_mono HO551.out (fun _ hk => hk.2)⟩, ⟨by (with_reducible repeat (first | apply Kd.N_alloc | apply Kd.N_drewN | apply Kd.N_drew)); exact Kd.N_mono HO547.out (fun _ hk => ⟨hk.2, ⟨hk.1.1, hk.1.2⟩⟩)⟩, ⟨bkA BK543⟩, ⟨bkA BK544⟩, ⟨blA⟩⟩
  case round =>
   clear H'
   try clear c7
   try clear hcz11_0
   try clear hcz11_1
   try clear hcz11_2
   try clear hfz11_0
   try clear hfz11_1
   try clear hfz11_2
   obtain ⟨x14_1, x33_1, rfl, HA, HK1, HO_14, HO_31, BK543, BK544, HB⟩ := hrel
   cases gk with
   | zero => exact absurd HA.out (by simp [impl_nearBalls.l0])
   | succ k1 =>
    have H := HA.out
    clear HA
    simp only [impl_nearBalls.l0] at H
    by_cases c16 : x33_1 < (t545.length : Int)
    ·
     rw [if_pos c16] at H
     have c16b0 := decide_eq_true c16
     clear c16
     by_cases c17 : 0 ≤ x33_1
     ·
      rw [if_pos c17] at H
      have c17b0 := decide_eq_true c17
      clear c17
      by_cases c18 : x33_1 < (t545.length : Int)
      ·
       rw [if_pos c18] at H
       have c18b0 := decide_eq_true c18
       clear c18
       have H' := Aside0.mk H
       clear H
       have p552 : 0 ≤ (x33_1 : Int) := dA
       have q552 : x33_1 < (t545.length : Int) := dA
       obtain ⟨ad552, A552_0, c552_0, e552, hx552_0, hl552_0, hi552_0⟩ := at_L2 (Kd.N_reads' HO_31.out).2.2 x33_1 p552 q552
       cases e552
       obtain ⟨ce552, hce552, hMe552, hcc552⟩ := Kd.N_get HO_31.out [] x33_1 p552 (by first | exact q552 | exact dA | (have e_ := (Kd.N_reads' HO_31.out).1; omega))
       obtain ⟨ua552_0, uc552_0, rfl, ul552_0, ge552_0⟩ := Kd.FK_slice_open hMe552
       have hv552_0 := hcc552 0 _ rfl
       rw [Nat.add_zero, show ((Kd.slice 39 k39)).sz = 1 from rfl, Nat.mul_one] at hv552_0
       replace hv552_0 := Option.some.inj (hv552_0.symm.trans hx552_0)
       injection hv552_0 with hva_ hvn_ hvc_
       rw [hva_] at ge552_0
       rw [hvc_] at ul552_0
       have HL552_0 := Aside0.mk (show Kd.V k39 39 _ w.heap.size _ _ (rd_L2 t545 x33_1) from Kd.V_mk ul552_0 ge552_0)
       clear hva_ hvn_ hvc_ ge552_0 ul552_0
       clear hcc552 hce552
       have HR552_0 := Aside0.mk hi552_0
       have HC552_0 := Aside0.mk hl552_0
       clear hi552_0 hl552_0
       replace p552 := eq_true p552
       replace q552 := eq_true q552
       go_wp2
       go_loopg [14, 39] k1 (fun kq v14 v39 w' => ∃ (x14_2 : List (S39)) (x39_2 : Int), v39 = .int .i64 x39_2 ∧ Aside0 (impl_nearBalls.l1 kq a0 a4 x14_2 t545 (t545.length : Int) x33_1 (rd_L2 t545 x33_1) ((rd_L2 t545 x33_1).length : Int) x39_2 a1_0 a1_1 a1_2 a1_3 = some (r1, r2)) ∧ Aside0 (kq ≤ k1) ∧ Aside0 (Kd.R k39 39 w' w.heap.size (fun k_ => k_ ≠ gb544) v14 x14_2) ∧ Aside0 (Kd.N (Kd.slice 39 k39) 36 w' w.heap.size (fun k_ => some k_ ≠ (v14 : Value).ownBlock ∧ k_ ≠ gb543 ∧ k_ ≠ gb544) (.slice (some ad552) t545.length co15) t545) ∧ Aside0 (Kd.V k39 39 w' w.heap.size (fun k_ => some k_ ≠ (v14 : Value).ownBlock ∧ some k_ ≠ ((.slice (some ad552) t545.length co15) : Value).ownBlock ∧ k_ ≠ gb543 ∧ k_ ≠ gb544) (.slice A552_0 (rd_L2 t545 x33_1).length c552_0) (rd_L2 t545 x33_1)) ∧ Aside0 (w'.heap[gb543]? = some (.cells #[.int .i64 a1_0, .int .i64 a1_1, .int .i64 a1_2, .int .i64 a1_3] 26 (0, 0))) ∧ Aside0 (w'.heap[gb544]? = some (.cells #[.int .i64 a2_0, .int .i64 a2_1, .int .i64 a2_2] 39 (0, 0))) ∧ Aside0 (Below w.heap.size w w'))
       case atStart => exact ⟨(x14_1), (0), hB, H', ⟨Nat.le_refl _⟩, ⟨rA HO_14⟩, ⟨rN HO_31⟩, ⟨by (with_reducible repeat (first | apply Kd.V_alloc | apply Kd.V_drewN | apply Kd.V_drew)); exact Kd.V_mono HL552_0.out (fun _ hk => ⟨hk.1.1, ⟨hk.2, ⟨hk.1.2.1, hk.1.2.2⟩⟩⟩)⟩, ⟨bkA BK543⟩, ⟨bkA BK544⟩, ⟨blA⟩⟩
       case round =>
        clear H'
        try clear c7
        try clear c16
        try clear c16b0
        try clear c17
        try clear c17b0
        try clear c18
        try clear c18b0
        try clear hcz11_0
        try clear hcz11_1
        try clear hcz11_2
        try clear hfz11_0
        try clear hfz11_1
        try clear hfz11_2
        try clear hx552_0
        try clear p552
        try clear q552
        obtain ⟨x14_2, x39_2, rfl, HA, HK2, HO_14, HO_31, HO_37, BK543, BK544, HB⟩ := hrel
        cases gk with
        | zero => exact absurd HA.out (by simp [impl_nearBalls.l1])
        | succ k2 =>
         have H := HA.out
         clear HA
         simp only [impl_nearBalls.l1] at H
         by_cases c19 : x39_2 < ((rd_L2 t545 x33_1).length : Int)
         ·
          rw [if_pos c19] at H
          have c19b0 := decide_eq_true c19
          clear c19
          by_cases c20 : 0 ≤ x39_2
          ·
           rw [if_pos c20] at H
           have c20b0 := decide_eq_true c20
           clear c20
           by_cases c21 : x39_2 < ((rd_L2 t545 x33_1).length : Int)
           ·
            rw [if_pos c21] at H
            have c21b0 := decide_eq_true c21
            clear c21
            replace H := bS H
            obtain ⟨⟨t555, t556, t557, t558⟩, A22, H⟩ := H
            try dsimp only at H
            by_cases c23 : t558 = true
            ·
             subst c23
             rw [if_pos rfl] at H
             try dsimp only at H
             replace H := bS H
             obtain ⟨t560, A24, H⟩ := H
             try dsimp only at H
             by_cases c25 : t560 = a4
             ·
              rw [if_pos c25] at H
              have c25b0 : (t560 == a4) = true := beq_iff_eq.mpr c25
              have c25b1 : (t560 != a4) = false := bne_eq_false_iff_eq.mpr c25
              clear c25
              by_cases c26 : x14_2.length < 5864062014805
              ·
               rw [if_pos c26] at H
               have LMc26 := Aside0.mk c26
               clear c26
               obtain ⟨y561, hy561⟩ : ∃ y_ : List (S39), y_ = (x14_2 ++ [(⟨(rd_T39 (rd_L2 t545 x33_1) x39_2).f0, (rd_T39 (rd_L2 t545 x33_1) x39_2).f1, (rd_T39 (rd_L2 t545 x33_1) x39_2).f2⟩ : S39)]) := ⟨_, rfl⟩
               replace H : (impl_nearBalls.l1 k2 a0 a4 y561 t545 (t545.length : Int) x33_1 (rd_L2 t545 x33_1) ((rd_L2 t545 x33_1).length : Int) (wrap64 (x39_2 + 1)) a1_0 a1_1 a1_2 a1_3) = some (r1, r2) := by first | (rw [hy561]; with_reducible exact H) | (have H2_ := (Option.bind_some _ _).symm.trans H; rw [hy561]; with_reducible exact H2_) | (have H2_ := (Option.bind_some _ _).symm.trans H; with_reducible exact H2_) | with_reducible exact H | (rw [hy561]; exact H) | exact H
               have Ny561 := Aside0.mk hy561
               clear hy561
               have H' := Aside0.mk H
               clear H
               have p553 : 0 ≤ (x39_2 : Int) := dA
               have q553 : x39_2 < ((rd_L2 t545 x33_1).length : Int) := dA
               obtain ⟨ad553, e553, hx553_0, hx553_1, hx553_2⟩ := at_T39 (Kd.V_reads' HO_37.out).2.2 x39_2 p553 q553
               cases e553
               replace p553 := eq_true p553
               replace q553 := eq_true q553
               go_wp2_with (first | ((with_reducible refine gate_dst (N := 18) rfl ?_); refine box_event ?hg (N := 18) ?hd (cs := #[.int .i64 0, .int .i64 0, .int .i64 0]) (t := 39) ?hr ?_; (case hd => rfl); (case hg => rfl); (case hr => first | (go_simp; done) | (go_simp; rfl)); intro gb554 hg w27 hbox hb; have BK554 := Aside0.mk (hbox); have GW554 := sA hg; have GE554 := sA hg; have NB543_554 := nA hg BK543; have NB554_543 := nB hg BK543; have NB544_554 := nA hg BK544; have NB554_544 := nB hg BK544; replace HO_14 := Aside0.mk (Kd.R_below (Kd.R_elderB (rA HO_14) gb554 (Nat.le_of_eq hg.symm)) hb); replace HO_31 := Aside0.mk (Kd.N_below (Kd.N_elderB (rN HO_31) gb554 (Nat.le_of_eq hg.symm)) hb); replace HO_37 := Aside0.mk (Kd.V_below (Kd.V_elderB (rV HO_37) gb554 (Nat.le_of_eq hg.symm)) hb); replace BK543 := kB BK543 hb; replace BK544 := kB BK544 hb; replace HB := lB hb; clear hb hbox hg; have hnb28 := NB554_543.out; have hnc28 := NB543_554.out; have hnb29 := NB554_544.out; have hnc29 := NB544_554.out; have hcz30_0 : w27.cell? ⟨gb554, 0, none⟩ = some (.int .i64 0) := cA BK554 0; have hcz30_1 : w27.cell? ⟨gb554, 1, none⟩ = some (.int .i64 0) := cA BK554 1; have hcz30_2 : w27.cell? ⟨gb554, 2, none⟩ = some (.int .i64 0) := cA BK554 2; have hfz30_0 := blk_frozen BK554.out 0; have hfz30_1 := blk_frozen BK554.out 1; have hfz30_2 := blk_frozen BK554.out 2; have hnb31 := NB543_544.out; have hnc31 := NB544_543.out; have hcz32_0 : w27.cell? ⟨gb543, 0, none⟩ = some (.int .i64 a1_0) := cA BK543 0; have hcz32_1 : w27.cell? ⟨gb543, 1, none⟩ = some (.int .i64 a1_1) := cA BK543 1; have hcz32_2 : w27.cell? ⟨gb543, 2, none⟩ = some (.int .i64 a1_2) := cA BK543 2; have hcz32_3 : w27.cell? ⟨gb543, 3, none⟩ = some (.int .i64 a1_3) := cA BK543 3; have hfz32_0 := blk_frozen BK543.out 0; have hfz32_1 := blk_frozen BK543.out 1; have hfz32_2 := blk_frozen BK543.out 2; have hfz32_3 := blk_frozen BK543.out 3) | ((with_reducible refine gate_callee (f := 68) rfl ?_); refine goesL_ (some 47) rfl rfl Try.func68 (by kernel_rfl) rfl #[.int .i64 a0, .agg #[.int .i64 a1_0, .int .i64 a1_1, .int .i64 a1_2, .int .i64 a1_3], .agg #[.int .i64 ((rd_T39 (rd_L2 t545 x33_1) x39_2).f0), .int .i64 ((rd_T39 (rd_L2 t545 x33_1) x39_2).f1), .int .i64 ((rd_T39 (rd_L2 t545 x33_1) x39_2).f2)]] rfl hA ?_; (with_reducible refine (impl_moveBall.calls k2 a0 a1_0 a1_1 a1_2 a1_3 ((rd_T39 (rd_L2 t545 x33_1) x39_2).f0) ((rd_T39 (rd_L2 t545 x33_1) x39_2).f1) ((rd_T39 (rd_L2 t545 x33_1) x39_2).f2) t555 t556 t557 true _ A22.out).mono ?_); rintro e w33 ⟨rfl, hb⟩; refine ⟨_, rfl, ?_⟩; have n0_ := Aside0.mk (Kd.R_below (by (with_reducible repeat (first | apply Kd.R_alloc | apply Kd.R_drewN | apply Kd.R_drew)); exact (Kd.R_mono (Kd.R_far (p := ⟨gb554, 2, none⟩) (Kd.R_far (p := ⟨gb554, 1, none⟩) (Kd.R_far (p := ⟨gb554, 0, none⟩) (Kd.R_mono HO_14.out (fun k_ hk => (⟨hk, hk.2⟩ : _ ∧ k_ ≠ gb554))) (fun _ hk => hk.2) (.int .i64 ((rd_T39 (rd_L2 t545 x33_1) x39_2).f0))) (fun _ hk => hk.2) (.int .i64 ((rd_T39 (rd_L2 t545 x33_1) x39_2).f1))) (fun _ hk => hk.2) (.int .i64 ((rd_T39 (rd_L2 t545 x33_1) x39_2).f2))) (fun _ h_ => h_.1))) hb); have n1_ := Aside0.mk (Kd.N_below (by (with_reducible repeat (first | apply Kd.N_alloc | apply Kd.N_drewN | apply Kd.N_drew)); exact (Kd.N_mono (Kd.N_far (p := ⟨gb554, 2, none⟩) (Kd.N_far (p := ⟨gb554, 1, none⟩) (Kd.N_far (p := ⟨gb554, 0, none⟩) (Kd.N_mono HO_31.out (fun k_ hk => (⟨hk, hk.2⟩ : _ ∧ k_ ≠ gb554))) (fun _ hk => hk.2) (.int .i64 ((rd_T39 (rd_L2 t545 x33_1) x39_2).f0))) (fun _ hk => hk.2) (.int .i64 ((rd_T39 (rd_L2 t545 x33_1) x39_2).f1))) (fun _ hk => hk.2) (.int .i64 ((rd_T39 (rd_L2 t545 x33_1) x39_2).f2))) (fun _ h_ => h_.1))) hb); have n2_ := Aside0.mk (Kd.V_below (by (with_reducible repeat (first | apply Kd.V_alloc | apply Kd.V_drewN | apply Kd.V_drew)); exact (Kd.V_mono (Kd.V_far (p := ⟨gb554, 2, none⟩) (Kd.V_far (p := ⟨gb554, 1, none⟩) (Kd.V_far (p := ⟨gb554, 0, none⟩) (Kd.V_mono HO_37.out (fun k_ hk => (⟨hk, hk.2⟩ : _ ∧ k_ ≠ gb554))) (fun _ hk => hk.2) (.int .i64 ((rd_T39 (rd_L2 t545 x33_1) x39_2).f0))) (fun _ hk => hk.2) (.int .i64 ((rd_T39 (rd_L2 t545 x33_1) x39_2).f1))) (fun _ hk => hk.2) (.int .i64 ((rd_T39 (rd_L2 t545 x33_1) x39_2).f2))) (fun _ h_ => h_.1))) hb); have n3_ := Aside0.mk (blk_below (g := gb543) (o := .cells #[.int .i64 a1_0, .int .i64 a1_1, .int .i64 a1_2, .int .i64 a1_3] 26 (0, 0)) (bkF BK543) hb); have n4_ := Aside0.mk (blk_below (g := gb544) (o := .cells #[.int .i64 a2_0, .int .i64 a2_1, .int .i64 a2_2] 39 (0, 0)) (bkF BK544) hb); have n5_ := Aside0.mk (blk_below (g := gb554) (o := .cells #[.int .i64 ((rd_T39 (rd_L2 t545 x33_1) x39_2).f0), .int .i64 ((rd_T39 (rd_L2 t545 x33_1) x39_2).f1), .int .i64 ((rd_T39 (rd_L2 t545 x33_1) x39_2).f2)] 39 (0, 0)) (by (with_reducible repeat (first | refine blk_drewN ?_ _ | refine blk_drew ?_ | refine blk_alloc ?_ _)); refine blk_put (cs := #[.int .i64 ((rd_T39 (rd_L2 t545 x33_1) x39_2).f0), .int .i64 ((rd_T39 (rd_L2 t545 x33_1) x39_2).f1), .int .i64 0]) ?_ 2 _ rfl; (with_reducible repeat (first | refine blk_drewN ?_ _ | refine blk_drew ?_ | refine blk_alloc ?_ _)); refine blk_put (cs := #[.int .i64 ((rd_T39 (rd_L2 t545 x33_1) x39_2).f0), .int .i64 0, .int .i64 0]) ?_ 1 _ rfl; (with_reducible repeat (first | refine blk_drewN ?_ _ | refine blk_drew ?_ | refine blk_alloc ?_ _)); refine blk_put (cs := #[.int .i64 0, .int .i64 0, .int .i64 0]) ?_ 0 _ rfl; (with_reducible repeat (first | refine blk_drewN ?_ _ | refine blk_drew ?_ | refine blk_alloc ?_ _)); exact BK554.out) hb); have n6_ := lB hb; clear HO_14; clear HO_31; clear HO_37; clear BK543; clear BK544; clear BK554; clear HB; have HO_14 := n0_; have HO_31 := n1_; have HO_37 := n2_; have BK543 := n3_; have BK544 := n4_; have BK554 := n5_; have HB := n6_; clear n0_ n1_ n2_ n3_ n4_ n5_ n6_; (try clear hb); (try clear hb2); (try clear hk); (try clear hi)) | ((with_reducible refine gate_dst (N := 19) rfl ?_); refine box_event ?hg (N := 19) ?hd (cs := #[.int .i64 0, .int .i64 0, .int .i64 0]) (t := 39) ?hr ?_; (case hd => rfl); (case hg => rfl); (case hr => first | (go_simp; done) | (go_simp; rfl)); intro gb559 hg w34 hbox hb; have BK559 := Aside0.mk (hbox); have GW559 := sA hg; have GE559 := sA hg; have NB543_559 := nA hg BK543; have NB559_543 := nB hg BK543; have NB544_559 := nA hg BK544; have NB559_544 := nB hg BK544; have NB554_559 := nA hg BK554; have NB559_554 := nB hg BK554; replace HO_14 := Aside0.mk (Kd.R_below (Kd.R_elderB (rA HO_14) gb559 (Nat.le_of_eq hg.symm)) hb); replace HO_31 := Aside0.mk (Kd.N_below (Kd.N_elderB (rN HO_31) gb559 (Nat.le_of_eq hg.symm)) hb); replace HO_37 := Aside0.mk (Kd.V_below (Kd.V_elderB (rV HO_37) gb559 (Nat.le_of_eq hg.symm)) hb); replace BK543 := kB BK543 hb; replace BK544 := kB BK544 hb; replace BK554 := kB BK554 hb; replace HB := lB hb; clear hb hbox hg; have hnb35 := NB559_543.out; have hnc35 := NB543_559.out; have hnb36 := NB559_544.out; have hnc36 := NB544_559.out; have hnb37 := NB559_554.out; have hnc37 := NB554_559.out; have hcz38_0 : w34.cell? ⟨gb559, 0, none⟩ = some (.int .i64 0) := cA BK559 0; have hcz38_1 : w34.cell? ⟨gb559, 1, none⟩ = some (.int .i64 0) := cA BK559 1; have hcz38_2 : w34.cell? ⟨gb559, 2, none⟩ = some (.int .i64 0) := cA BK559 2; have hfz38_0 := blk_frozen BK559.out 0; have hfz38_1 := blk_frozen BK559.out 1; have hfz38_2 := blk_frozen BK559.out 2; have hcz39_0 : w34.cell? ⟨gb554, 0, none⟩ = some (.int .i64 ((rd_T39 (rd_L2 t545 x33_1) x39_2).f0)) := cA BK554 0; have hcz39_1 : w34.cell? ⟨gb554, 1, none⟩ = some (.int .i64 ((rd_T39 (rd_L2 t545 x33_1) x39_2).f1)) := cA BK554 1; have hcz39_2 : w34.cell? ⟨gb554, 2, none⟩ = some (.int .i64 ((rd_T39 (rd_L2 t545 x33_1) x39_2).f2)) := cA BK554 2; have hfz39_0 := blk_frozen BK554.out 0; have hfz39_1 := blk_frozen BK554.out 1; have hfz39_2 := blk_frozen BK554.out 2) | ((with_reducible refine gate_callee (f := 96) rfl ?_); refine goesL_ (some 55) rfl rfl Try.func96 (by kernel_rfl) rfl #[.int .i64 a0, .agg #[.int .i64 ((rd_T39 (rd_L2 t545 x33_1) x39_2).f0), .int .i64 ((rd_T39 (rd_L2 t545 x33_1) x39_2).f1), .int .i64 ((rd_T39 (rd_L2 t545 x33_1) x39_2).f2)], .agg #[.int .i64 t555, .int .i64 t556, .int .i64 t557]] rfl hA ?_; (with_reducible refine (impl_distance.calls k2 a0 ((rd_T39 (rd_L2 t545 x33_1) x39_2).f0) ((rd_T39 (rd_L2 t545 x33_1) x39_2).f1) ((rd_T39 (rd_L2 t545 x33_1) x39_2).f2) t555 t556 t557 t560 _ A24.out).mono ?_); rintro e w40 ⟨rfl, hb⟩; refine ⟨_, rfl, ?_⟩; have n0_ := Aside0.mk (Kd.R_below (by (with_reducible repeat (first | apply Kd.R_alloc | apply Kd.R_drewN | apply Kd.R_drew)); exact (Kd.R_mono (Kd.R_far (p := ⟨gb559, 2, none⟩) (Kd.R_far (p := ⟨gb559, 1, none⟩) (Kd.R_far (p := ⟨gb559, 0, none⟩) (Kd.R_mono HO_14.out (fun k_ hk => (⟨hk, hk.2⟩ : _ ∧ k_ ≠ gb559))) (fun _ hk => hk.2) (.int .i64 t555)) (fun _ hk => hk.2) (.int .i64 t556)) (fun _ hk => hk.2) (.int .i64 t557)) (fun _ h_ => h_.1))) hb); have n1_ := Aside0.mk (Kd.N_below (by (with_reducible repeat (first | apply Kd.N_alloc | apply Kd.N_drewN | apply Kd.N_drew)); exact (Kd.N_mono (Kd.N_far (p := ⟨gb559, 2, none⟩) (Kd.N_far (p := ⟨gb559, 1, none⟩) (Kd.N_far (p := ⟨gb559, 0, none⟩) (Kd.N_mono HO_31.out (fun k_ hk => (⟨hk, hk.2⟩ : _ ∧ k_ ≠ gb559))) (fun _ hk => hk.2) (.int .i64 t555)) (fun _ hk => hk.2) (.int .i64 t556)) (fun _ hk => hk.2) (.int .i64 t557)) (fun _ h_ => h_.1))) hb); have n2_ := Aside0.mk (Kd.V_below (by (with_reducible repeat (first | apply Kd.V_alloc | apply Kd.V_drewN | apply Kd.V_drew)); exact (Kd.V_mono (Kd.V_far (p := ⟨gb559, 2, none⟩) (Kd.V_far (p := ⟨gb559, 1, none⟩) (Kd.V_far (p := ⟨gb559, 0, none⟩) (Kd.V_mono HO_37.out (fun k_ hk => (⟨hk, hk.2⟩ : _ ∧ k_ ≠ gb559))) (fun _ hk => hk.2) (.int .i64 t555)) (fun _ hk => hk.2) (.int .i64 t556)) (fun _ hk => hk.2) (.int .i64 t557)) (fun _ h_ => h_.1))) hb); have n3_ := Aside0.mk (blk_below (g := gb543) (o := .cells #[.int .i64 a1_0, .int .i64 a1_1, .int .i64 a1_2, .int .i64 a1_3] 26 (0, 0)) (bkF BK543) hb); have n4_ := Aside0.mk (blk_below (g := gb544) (o := .cells #[.int .i64 a2_0, .int .i64 a2_1, .int .i64 a2_2] 39 (0, 0)) (bkF BK544) hb); have n5_ := Aside0.mk (blk_below (g := gb554) (o := .cells #[.int .i64 ((rd_T39 (rd_L2 t545 x33_1) x39_2).f0), .int .i64 ((rd_T39 (rd_L2 t545 x33_1) x39_2).f1), .int .i64 ((rd_T39 (rd_L2 t545 x33_1) x39_2).f2)] 39 (0, 0)) (bkF BK554) hb); have n6_ := Aside0.mk (blk_below (g := gb559) (o := .cells #[.int .i64 t555, .int .i64 t556, .int .i64 t557] 39 (0, 0)) (by (with_reducible repeat (first | refine blk_drewN ?_ _ | refine blk_drew ?_ | refine blk_alloc ?_ _)); refine blk_put (cs := #[.int .i64 t555, .int .i64 t556, .int .i64 0]) ?_ 2 _ rfl; (with_reducible repeat (first | refine blk_drewN ?_ _ | refine blk_drew ?_ | refine blk_alloc ?_ _)); refine blk_put (cs := #[.int .i64 t555, .int .i64 0, .int .i64 0]) ?_ 1 _ rfl; (with_reducible repeat (first | refine blk_drewN ?_ _ | refine blk_drew ?_ | refine blk_alloc ?_ _)); refine blk_put (cs := #[.int .i64 0, .int .i64 0, .int .i64 0]) ?_ 0 _ rfl; (with_reducible repeat (first | refine blk_drewN ?_ _ | refine blk_drew ?_ | refine blk_alloc ?_ _)); exact BK559.out) hb); have n7_ := lB hb; clear HO_14; clear HO_31; clear HO_37; clear BK543; clear BK544; clear BK554; clear BK559; clear HB; have HO_14 := n0_; have HO_31 := n1_; have HO_37 := n2_; have BK543 := n3_; have BK544 := n4_; have BK554 := n5_; have BK559 := n6_; have HB := n7_; clear n0_ n1_ n2_ n3_ n4_ n5_ n6_ n7_; (try clear hb); (try clear hb2); (try clear hk); (try clear hi); have hcz41_0 : w40.cell? ⟨gb554, 0, none⟩ = some (.int .i64 ((rd_T39 (rd_L2 t545 x33_1) x39_2).f0)) := cA BK554 0; have hcz41_1 : w40.cell? ⟨gb554, 1, none⟩ = some (.int .i64 ((rd_T39 (rd_L2 t545 x33_1) x39_2).f1)) := cA BK554 1; have hcz41_2 : w40.cell? ⟨gb554, 2, none⟩ = some (.int .i64 ((rd_T39 (rd_L2 t545 x33_1) x39_2).f2)) := cA BK554 2; have hfz41_0 := blk_frozen BK554.out 0; have hfz41_1 := blk_frozen BK554.out 1; have hfz41_2 := blk_frozen BK554.out 2) | ((with_reducible refine gate_builtin (b := .append) (xs := #[.tmp 58, .tmp 60]) rfl ?_); at_builtin; refine Kd.R_append k39 (w0 := w) w.heap.size rfl (.tmp 58) (.tmp 60) 36 39 (.agg #[(.int .i64 0), (.int .i64 0), (.int .i64 0)]) 24 rfl Try.underlying36 info39 rfl (by decide) (by omega) u14 x14_2 (⟨(rd_T39 (rd_L2 t545 x33_1) x39_2).f0, (rd_T39 (rd_L2 t545 x33_1) x39_2).f1, (rd_T39 (rd_L2 t545 x33_1) x39_2).f2⟩ : S39) [.int .i64 ((rd_T39 (rd_L2 t545 x33_1) x39_2).f0), .int .i64 ((rd_T39 (rd_L2 t545 x33_1) x39_2).f1), .int .i64 ((rd_T39 (rd_L2 t545 x33_1) x39_2).f2)] (fun k_ => k_ ≠ gb544 ∧ k_ ≠ gb554 ∧ k_ ≠ gb559) (fun _ => False) rfl rfl ?aP (fun _ hk => hk.elim) ?aF ?aO ?aB ?aS ?aL ?_; (case aP => exact k39_mkM _ _ _ (⟨(rd_T39 (rd_L2 t545 x33_1) x39_2).f0, (rd_T39 (rd_L2 t545 x33_1) x39_2).f1, (rd_T39 (rd_L2 t545 x33_1) x39_2).f2⟩ : S39)); (case aB => exact blA); (case aF => exact (fun k_ hk => ⟨Kd.freshB (bkA BK544) k_ hk, Kd.freshB (bkA BK554) k_ hk, Kd.freshB (bkA BK559) k_ hk⟩)); (case aO => exact (by (with_reducible repeat (first | apply Kd.R_alloc | apply Kd.R_drewN | apply Kd.R_drew)); exact Kd.R_mono HO_14.out (fun _ hk => ⟨hk.1.1, ⟨hk.1.2, hk.2⟩⟩))); (case aS => exact (below_size blA)); (case aL => have := LMc26.out; omega); intro v562 w42 ho hb hg hat; rw [← Ny561.out] at ho; have HO563 := Aside0.mk (ho); replace HO_31 := Aside0.mk (Kd.N_afterv (ok := (fun k_ => k_ ≠ gb543 ∧ k_ ≠ gb544 ∧ k_ ≠ gb554 ∧ k_ ≠ gb559)) (by (with_reducible repeat (first | apply Kd.N_alloc | apply Kd.N_drewN | apply Kd.N_drew)); exact Kd.N_mono HO_31.out (fun _ hk => ⟨⟨hk.1.1.2.1, ⟨hk.1.1.2.2, ⟨hk.1.2, hk.2⟩⟩⟩, hk.1.1.1⟩)) hg hat); replace HO_37 := Aside0.mk (Kd.V_afterv (ok := (fun k_ => some k_ ≠ (.slice (some ad552) t545.length co15 : Value).ownBlock ∧ k_ ≠ gb543 ∧ k_ ≠ gb544 ∧ k_ ≠ gb554 ∧ k_ ≠ gb559)) (by (with_reducible repeat (first | apply Kd.V_alloc | apply Kd.V_drewN | apply Kd.V_drew)); exact Kd.V_mono HO_37.out (fun _ hk => ⟨⟨hk.1.1.2.1, ⟨hk.1.1.2.2.1, ⟨hk.1.1.2.2.2, ⟨hk.1.2, hk.2⟩⟩⟩⟩, hk.1.1.1⟩)) hg hat); replace BK543 := Aside0.mk (blk_grown (bkA BK543) hg (Kd.R_ne HO_14.out BK543.out (by decide))); replace BK544 := Aside0.mk (blk_grown (bkA BK544) hg (Kd.R_away HO_14.out (fun _ hk => hk.1.1))); replace BK554 := Aside0.mk (blk_grown (bkA BK554) hg (Kd.R_away HO_14.out (fun _ hk => hk.1.2))); replace BK559 := Aside0.mk (blk_grown (bkA BK559) hg (Kd.R_away HO_14.out (fun _ hk => hk.2))); replace HB := Aside0.mk (hb); clear HO_14; clear ho hb hg hat))
               go_roundg k2
               case measure => have := HK1.out; have := HK2.out; omega
               case rel => exact ⟨(y561), (wrap64 (x39_2 + 1)), hB, H', ⟨by have := HK1.out; have := HK2.out; omega⟩, ⟨by (with_reducible repeat (first | apply Kd.R_alloc | apply Kd.R_drewN | apply Kd.R_drew)); exact Kd.R_mono HO563.out (fun _ hk => hk.1)⟩, ⟨by (with_reducible repeat (first | apply Kd.N_alloc | apply Kd.N_drewN | apply Kd.N_drew)); exact Kd.N_mono HO_31.out (fun _ hk => ⟨hk.2, ⟨hk.1.1, hk.1.2.1⟩⟩)⟩, ⟨by (with_reducible repeat (first | apply Kd.V_alloc | apply Kd.V_drewN | apply Kd.V_drew)); exact Kd.V_mono HO_37.out (fun _ hk => ⟨hk.2, ⟨hk.1.1, ⟨hk.1.2.1, hk.1.2.2.1⟩⟩⟩)⟩, ⟨bkA BK543⟩, ⟨bkA BK544⟩, ⟨blA⟩⟩
              ·
               rw [if_neg c26] at H
               exact absurd H (by simp)
             ·
              rw [if_neg c25] at H
              have c25b0 : (t560 == a4) = false := beq_eq_false_iff_ne.mpr c25
              have c25b1 : (t560 != a4) = true := bne_iff_ne.mpr c25
              have H' := Aside0.mk H
              clear H
              have p553 : 0 ≤ (x39_2 : Int) := dA
              have q553 : x39_2 < ((rd_L2 t545 x33_1).length : Int) := dA
              obtain ⟨ad553, e553, hx553_0, hx553_1, hx553_2⟩ := at_T39 (Kd.V_reads' HO_37.out).2.2 x39_2 p553 q553
              cases e553
              replace p553 := eq_true p553
              replace q553 := eq_true q553
              go_wp2_with (first | ((with_reducible refine gate_dst (N := 18) rfl ?_); refine box_event ?hg (N := 18) ?hd (cs := #[.int .i64 0, .int .i64 0, .int .i64 0]) (t := 39) ?hr ?_; (case hd => rfl); (case hg => rfl); (case hr => first | (go_simp; done) | (go_simp; rfl)); intro gb554 hg w43 hbox hb; have BK554 := Aside0.mk (hbox); have GW554 := sA hg; have GE554 := sA hg; have NB543_554 := nA hg BK543; have NB554_543 := nB hg BK543; have NB544_554 := nA hg BK544; have NB554_544 := nB hg BK544; replace HO_14 := Aside0.mk (Kd.R_below (Kd.R_elderB (rA HO_14) gb554 (Nat.le_of_eq hg.symm)) hb); replace HO_31 := Aside0.mk (Kd.N_below (Kd.N_elderB (rN HO_31) gb554 (Nat.le_of_eq hg.symm)) hb); replace HO_37 := Aside0.mk (Kd.V_below (Kd.V_elderB (rV HO_37) gb554 (Nat.le_of_eq hg.symm)) hb); replace BK543 := kB BK543 hb; replace BK544 := kB BK544 hb; replace HB := lB hb; clear hb hbox hg; have hnb44 := NB554_543.out; have hnc44 := NB543_554.out; have hnb45 := NB554_544.out; have hnc45 := NB544_554.out; have hcz46_0 : w43.cell? ⟨gb554, 0, none⟩ = some (.int .i64 0) := cA BK554 0; have hcz46_1 : w43.cell? ⟨gb554, 1, none⟩ = some (.int .i64 0) := cA BK554 1; have hcz46_2 : w43.cell? ⟨gb554, 2, none⟩ = some (.int .i64 0) := cA BK554 2; have hfz46_0 := blk_frozen BK554.out 0; have hfz46_1 := blk_frozen BK554.out 1; have hfz46_2 := blk_frozen BK554.out 2; have hnb47 := NB543_544.out; have hnc47 := NB544_543.out; have hcz48_0 : w43.cell? ⟨gb543, 0, none⟩ = some (.int .i64 a1_0) := cA BK543 0; have hcz48_1 : w43.cell? ⟨gb543, 1, none⟩ = some (.int .i64 a1_1) := cA BK543 1; have hcz48_2 : w43.cell? ⟨gb543, 2, none⟩ = some (.int .i64 a1_2) := cA BK543 2; have hcz48_3 : w43.cell? ⟨gb543, 3, none⟩ = some (.int .i64 a1_3) := cA BK543 3; have hfz48_0 := blk_frozen BK543.out 0; have hfz48_1 := blk_frozen BK543.out 1; have hfz48_2 := blk_frozen BK543.out 2; have hfz48_3 := blk_frozen BK543.out 3) | ((with_reducible refine gate_callee (f := 68) rfl ?_); refine goesL_ (some 47) rfl rfl Try.func68 (by kernel_rfl) rfl #[.int .i64 a0, .agg #[.int .i64 a1_0, .int .i64 a1_1, .int .i64 a1_2, .int .i64 a1_3], .agg #[.int .i64 ((rd_T39 (rd_L2 t545 x33_1) x39_2).f0), .int .i64 ((rd_T39 (rd_L2 t545 x33_1) x39_2).f1), .int .i64 ((rd_T39 (rd_L2 t545 x33_1) x39_2).f2)]] rfl hA ?_; (with_reducible refine (impl_moveBall.calls k2 a0 a1_0 a1_1 a1_2 a1_3 ((rd_T39 (rd_L2 t545 x33_1) x39_2).f0) ((rd_T39 (rd_L2 t545 x33_1) x39_2).f1) ((rd_T39 (rd_L2 t545 x33_1) x39_2).f2) t555 t556 t557 true _ A22.out).mono ?_); rintro e w49 ⟨rfl, hb⟩; refine ⟨_, rfl, ?_⟩; have n0_ := Aside0.mk (Kd.R_below (by (with_reducible repeat (first | apply Kd.R_alloc | apply Kd.R_drewN | apply Kd.R_drew)); exact (Kd.R_mono (Kd.R_far (p := ⟨gb554, 2, none⟩) (Kd.R_far (p := ⟨gb554, 1, none⟩) (Kd.R_far (p := ⟨gb554, 0, none⟩) (Kd.R_mono HO_14.out (fun k_ hk => (⟨hk, hk.2⟩ : _ ∧ k_ ≠ gb554))) (fun _ hk => hk.2) (.int .i64 ((rd_T39 (rd_L2 t545 x33_1) x39_2).f0))) (fun _ hk => hk.2) (.int .i64 ((rd_T39 (rd_L2 t545 x33_1) x39_2).f1))) (fun _ hk => hk.2) (.int .i64 ((rd_T39 (rd_L2 t545 x33_1) x39_2).f2))) (fun _ h_ => h_.1))) hb); have n1_ := Aside0.mk (Kd.N_below (by (with_reducible repeat (first | apply Kd.N_alloc | apply Kd.N_drewN | apply Kd.N_drew)); exact (Kd.N_mono (Kd.N_far (p := ⟨gb554, 2, none⟩) (Kd.N_far (p := ⟨gb554, 1, none⟩) (Kd.N_far (p := ⟨gb554, 0, none⟩) (Kd.N_mono HO_31.out (fun k_ hk => (⟨hk, hk.2⟩ : _ ∧ k_ ≠ gb554))) (fun _ hk => hk.2) (.int .i64 ((rd_T39 (rd_L2 t545 x33_1) x39_2).f0))) (fun _ hk => hk.2) (.int .i64 ((rd_T39 (rd_L2 t545 x33_1) x39_2).f1))) (fun _ hk => hk.2) (.int .i64 ((rd_T39 (rd_L2 t545 x33_1) x39_2).f2))) (fun _ h_ => h_.1))) hb); have n2_ := Aside0.mk (Kd.V_below (by (with_reducible repeat (first | apply Kd.V_alloc | apply Kd.V_drewN | apply Kd.V_drew)); exact (Kd.V_mono (Kd.V_far (p := ⟨gb554, 2, none⟩) (Kd.V_far (p := ⟨gb554, 1, none⟩) (Kd.V_far (p := ⟨gb554, 0, none⟩) (Kd.V_mono HO_37.out (fun k_ hk => (⟨hk, hk.2⟩ : _ ∧ k_ ≠ gb554))) (fun _ hk => hk.2) (.int .i64 ((rd_T39 (rd_L2 t545 x33_1) x39_2).f0))) (fun _ hk => hk.2) (.int .i64 ((rd_T39 (rd_L2 t545 x33_1) x39_2).f1))) (fun _ hk => hk.2) (.int .i64 ((rd_T39 (rd_L2 t545 x33_1) x39_2).f2))) (fun _ h_ => h_.1))) hb); have n3_ := Aside0.mk (blk_below (g := gb543) (o := .cells #[.int .i64 a1_0, .int .i64 a1_1, .int .i64 a1_2, .int .i64 a1_3] 26 (0, 0)) (bkF BK543) hb); have n4_ := Aside0.mk (blk_below (g := gb544) (o := .cells #[.int .i64 a2_0, .int .i64 a2_1, .int .i64 a2_2] 39 (0, 0)) (bkF BK544) hb); have n5_ := Aside0.mk (blk_below (g := gb554) (o := .cells #[.int .i64 ((rd_T39 (rd_L2 t545 x33_1) x39_2).f0), .int .i64 ((rd_T39 (rd_L2 t545 x33_1) x39_2).f1), .int .i64 ((rd_T39 (rd_L2 t545 x33_1) x39_2).f2)] 39 (0, 0)) (by (with_reducible repeat (first | refine blk_drewN ?_ _ | refine blk_drew ?_ | refine blk_alloc ?_ _)); refine blk_put (cs := #[.int .i64 ((rd_T39 (rd_L2 t545 x33_1) x39_2).f0), .int .i64 ((rd_T39 (rd_L2 t545 x33_1) x39_2).f1), .int .i64 0]) ?_ 2 _ rfl; (with_reducible repeat (first | refine blk_drewN ?_ _ | refine blk_drew ?_ | refine blk_alloc ?_ _)); refine blk_put (cs := #[.int .i64 ((rd_T39 (rd_L2 t545 x33_1) x39_2).f0), .int .i64 0, .int .i64 0]) ?_ 1 _ rfl; (with_reducible repeat (first | refine blk_drewN ?_ _ | refine blk_drew ?_ | refine blk_alloc ?_ _)); refine blk_put (cs := #[.int .i64 0, .int .i64 0, .int .i64 0]) ?_ 0 _ rfl; (with_reducible repeat (first | refine blk_drewN ?_ _ | refine blk_drew ?_ | refine blk_alloc ?_ _)); exact BK554.out) hb); have n6_ := lB hb; clear HO_14; clear HO_31; clear HO_37; clear BK543; clear BK544; clear BK554; clear HB; have HO_14 := n0_; have HO_31 := n1_; have HO_37 := n2_; have BK543 := n3_; have BK544 := n4_; have BK554 := n5_; have HB := n6_; clear n0_ n1_ n2_ n3_ n4_ n5_ n6_; (try clear hb); (try clear hb2); (try clear hk); (try clear hi)) | ((with_reducible refine gate_dst (N := 19) rfl ?_); refine box_event ?hg (N := 19) ?hd (cs := #[.int .i64 0, .int .i64 0, .int .i64 0]) (t := 39) ?hr ?_; (case hd => rfl); (case hg => rfl); (case hr => first | (go_simp; done) | (go_simp; rfl)); intro gb559 hg w50 hbox hb; have BK559 := Aside0.mk (hbox); have GW559 := sA hg; have GE559 := sA hg; have NB543_559 := nA hg BK543; have NB559_543 := nB hg BK543; have NB544_559 := nA hg BK544; have NB559_544 := nB hg BK544; have NB554_559 := nA hg BK554; have NB559_554 := nB hg BK554; replace HO_14 := Aside0.mk (Kd.R_below (Kd.R_elderB (rA HO_14) gb559 (Nat.le_of_eq hg.symm)) hb); replace HO_31 := Aside0.mk (Kd.N_below (Kd.N_elderB (rN HO_31) gb559 (Nat.le_of_eq hg.symm)) hb); replace HO_37 := Aside0.mk (Kd.V_below (Kd.V_elderB (rV HO_37) gb559 (Nat.le_of_eq hg.symm)) hb); replace BK543 := kB BK543 hb; replace BK544 := kB BK544 hb; replace BK554 := kB BK554 hb; replace HB := lB hb; clear hb hbox hg; have hnb51 := NB559_543.out; have hnc51 := NB543_559.out; have hnb52 := NB559_544.out; have hnc52 := NB544_559.out; have hnb53 := NB559_554.out; have hnc53 := NB554_559.out; have hcz54_0 : w50.cell? ⟨gb559, 0, none⟩ = some (.int .i64 0) := cA BK559 0; have hcz54_1 : w50.cell? ⟨gb559, 1, none⟩ = some (.int .i64 0) := cA BK559 1; have hcz54_2 : w50.cell? ⟨gb559, 2, none⟩ = some (.int .i64 0) := cA BK559 2; have hfz54_0 := blk_frozen BK559.out 0; have hfz54_1 := blk_frozen BK559.out 1; have hfz54_2 := blk_frozen BK559.out 2; have hcz55_0 : w50.cell? ⟨gb554, 0, none⟩ = some (.int .i64 ((rd_T39 (rd_L2 t545 x33_1) x39_2).f0)) := cA BK554 0; have hcz55_1 : w50.cell? ⟨gb554, 1, none⟩ = some (.int .i64 ((rd_T39 (rd_L2 t545 x33_1) x39_2).f1)) := cA BK554 1; have hcz55_2 : w50.cell? ⟨gb554, 2, none⟩ = some (.int .i64 ((rd_T39 (rd_L2 t545 x33_1) x39_2).f2)) := cA BK554 2; have hfz55_0 := blk_frozen BK554.out 0; have hfz55_1 := blk_frozen BK554.out 1; have hfz55_2 := blk_frozen BK554.out 2) | ((with_reducible refine gate_callee (f := 96) rfl ?_); refine goesL_ (some 55) rfl rfl Try.func96 (by kernel_rfl) rfl #[.int .i64 a0, .agg #[.int .i64 ((rd_T39 (rd_L2 t545 x33_1) x39_2).f0), .int .i64 ((rd_T39 (rd_L2 t545 x33_1) x39_2).f1), .int .i64 ((rd_T39 (rd_L2 t545 x33_1) x39_2).f2)], .agg #[.int .i64 t555, .int .i64 t556, .int .i64 t557]] rfl hA ?_; (with_reducible refine (impl_distance.calls k2 a0 ((rd_T39 (rd_L2 t545 x33_1) x39_2).f0) ((rd_T39 (rd_L2 t545 x33_1) x39_2).f1) ((rd_T39 (rd_L2 t545 x33_1) x39_2).f2) t555 t556 t557 t560 _ A24.out).mono ?_); rintro e w56 ⟨rfl, hb⟩; refine ⟨_, rfl, ?_⟩; have n0_ := Aside0.mk (Kd.R_below (by (with_reducible repeat (first | apply Kd.R_alloc | apply Kd.R_drewN | apply Kd.R_drew)); exact (Kd.R_mono (Kd.R_far (p := ⟨gb559, 2, none⟩) (Kd.R_far (p := ⟨gb559, 1, none⟩) (Kd.R_far (p := ⟨gb559, 0, none⟩) (Kd.R_mono HO_14.out (fun k_ hk => (⟨hk, hk.2⟩ : _ ∧ k_ ≠ gb559))) (fun _ hk => hk.2) (.int .i64 t555)) (fun _ hk => hk.2) (.int .i64 t556)) (fun _ hk => hk.2) (.int .i64 t557)) (fun _ h_ => h_.1))) hb); have n1_ := Aside0.mk (Kd.N_below (by (with_reducible repeat (first | apply Kd.N_alloc | apply Kd.N_drewN | apply Kd.N_drew)); exact (Kd.N_mono (Kd.N_far (p := ⟨gb559, 2, none⟩) (Kd.N_far (p := ⟨gb559, 1, none⟩) (Kd.N_far (p := ⟨gb559, 0, none⟩) (Kd.N_mono HO_31.out (fun k_ hk => (⟨hk, hk.2⟩ : _ ∧ k_ ≠ gb559))) (fun _ hk => hk.2) (.int .i64 t555)) (fun _ hk => hk.2) (.int .i64 t556)) (fun _ hk => hk.2) (.int .i64 t557)) (fun _ h_ => h_.1))) hb); have n2_ := Aside0.mk (Kd.V_below (by (with_reducible repeat (first | apply Kd.V_alloc | apply Kd.V_drewN | apply Kd.V_drew)); exact (Kd.V_mono (Kd.V_far (p := ⟨gb559, 2, none⟩) (Kd.V_far (p := ⟨gb559, 1, none⟩) (Kd.V_far (p := ⟨gb559, 0, none⟩) (Kd.V_mono HO_37.out (fun k_ hk => (⟨hk, hk.2⟩ : _ ∧ k_ ≠ gb559))) (fun _ hk => hk.2) (.int .i64 t555)) (fun _ hk => hk.2) (.int .i64 t556)) (fun _ hk => hk.2) (.int .i64 t557)) (fun _ h_ => h_.1))) hb); have n3_ := Aside0.mk (blk_below (g := gb543) (o := .cells #[.int .i64 a1_0, .int .i64 a1_1, .int .i64 a1_2, .int .i64 a1_3] 26 (0, 0)) (bkF BK543) hb); have n4_ := Aside0.mk (blk_below (g := gb544) (o := .cells #[.int .i64 a2_0, .int .i64 a2_1, .int .i64 a2_2] 39 (0, 0)) (bkF BK544) hb); have n5_ := Aside0.mk (blk_below (g := gb554) (o := .cells #[.int .i64 ((rd_T39 (rd_L2 t545 x33_1) x39_2).f0), .int .i64 ((rd_T39 (rd_L2 t545 x33_1) x39_2).f1), .int .i64 ((rd_T39 (rd_L2 t545 x33_1) x39_2).f2)] 39 (0, 0)) (bkF BK554) hb); have n6_ := Aside0.mk (blk_below (g := gb559) (o := .cells #[.int .i64 t555, .int .i64 t556, .int .i64 t557] 39 (0, 0)) (by (with_reducible repeat (first | refine blk_drewN ?_ _ | refine blk_drew ?_ | refine blk_alloc ?_ _)); refine blk_put (cs := #[.int .i64 t555, .int .i64 t556, .int .i64 0]) ?_ 2 _ rfl; (with_reducible repeat (first | refine blk_drewN ?_ _ | refine blk_drew ?_ | refine blk_alloc ?_ _)); refine blk_put (cs := #[.int .i64 t555, .int .i64 0, .int .i64 0]) ?_ 1 _ rfl; (with_reducible repeat (first | refine blk_drewN ?_ _ | refine blk_drew ?_ | refine blk_alloc ?_ _)); refine blk_put (cs := #[.int .i64 0, .int .i64 0, .int .i64 0]) ?_ 0 _ rfl; (with_reducible repeat (first | refine blk_drewN ?_ _ | refine blk_drew ?_ | refine blk_alloc ?_ _)); exact BK559.out) hb); have n7_ := lB hb; clear HO_14; clear HO_31; clear HO_37; clear BK543; clear BK544; clear BK554; clear BK559; clear HB; have HO_14 := n0_; have HO_31 := n1_; have HO_37 := n2_; have BK543 := n3_; have BK544 := n4_; have BK554 := n5_; have BK559 := n6_; have HB := n7_; clear n0_ n1_ n2_ n3_ n4_ n5_ n6_ n7_; (try clear hb); (try clear hb2); (try clear hk); (try clear hi)))
              go_roundg k2
              case measure => have := HK1.out; have := HK2.out; omega
              case rel => exact ⟨(x14_2), (wrap64 (x39_2 + 1)), hB, H', ⟨by have := HK1.out; have := HK2.out; omega⟩, ⟨by (with_reducible repeat (first | apply Kd.R_alloc | apply Kd.R_drewN | apply Kd.R_drew)); exact Kd.R_mono HO_14.out (fun _ hk => hk.1.1)⟩, ⟨by (with_reducible repeat (first | apply Kd.N_alloc | apply Kd.N_drewN | apply Kd.N_drew)); exact Kd.N_mono HO_31.out (fun _ hk => ⟨hk.1.1.1, ⟨hk.1.1.2.1, hk.1.1.2.2⟩⟩)⟩, ⟨by (with_reducible repeat (first | apply Kd.V_alloc | apply Kd.V_drewN | apply Kd.V_drew)); exact Kd.V_mono HO_37.out (fun _ hk => ⟨hk.1.1.1, ⟨hk.1.1.2.1, ⟨hk.1.1.2.2.1, hk.1.1.2.2.2⟩⟩⟩)⟩, ⟨bkA BK543⟩, ⟨bkA BK544⟩, ⟨blA⟩⟩
            ·
             replace c23 := Bool.eq_false_iff.mpr c23
             subst c23
             rw [if_neg (show ¬ (false = true) by decide)] at H
             try dsimp only at H
             simp only [Option.some.injEq, Prod.mk.injEq] at H
             obtain ⟨rfl, rfl⟩ := H
             have p553 : 0 ≤ (x39_2 : Int) := dA
             have q553 : x39_2 < ((rd_L2 t545 x33_1).length : Int) := dA
             obtain ⟨ad553, e553, hx553_0, hx553_1, hx553_2⟩ := at_T39 (Kd.V_reads' HO_37.out).2.2 x39_2 p553 q553
             cases e553
             replace p553 := eq_true p553
             replace q553 := eq_true q553
             go_wp2_with (first | ((with_reducible refine gate_dst (N := 18) rfl ?_); refine box_event ?hg (N := 18) ?hd (cs := #[.int .i64 0, .int .i64 0, .int .i64 0]) (t := 39) ?hr ?_; (case hd => rfl); (case hg => rfl); (case hr => first | (go_simp; done) | (go_simp; rfl)); intro gb554 hg w57 hbox hb; have BK554 := Aside0.mk (hbox); have GW554 := sA hg; have GE554 := sA hg; have NB543_554 := nA hg BK543; have NB554_543 := nB hg BK543; have NB544_554 := nA hg BK544; have NB554_544 := nB hg BK544; replace HO_14 := Aside0.mk (Kd.R_below (Kd.R_elderB (rA HO_14) gb554 (Nat.le_of_eq hg.symm)) hb); replace HO_31 := Aside0.mk (Kd.N_below (Kd.N_elderB (rN HO_31) gb554 (Nat.le_of_eq hg.symm)) hb); replace HO_37 := Aside0.mk (Kd.V_below (Kd.V_elderB (rV HO_37) gb554 (Nat.le_of_eq hg.symm)) hb); replace BK543 := kB BK543 hb; replace BK544 := kB BK544 hb; replace HB := lB hb; clear hb hbox hg; have hnb58 := NB554_543.out; have hnc58 := NB543_554.out; have hnb59 := NB554_544.out; have hnc59 := NB544_554.out; have hcz60_0 : w57.cell? ⟨gb554, 0, none⟩ = some (.int .i64 0) := cA BK554 0; have hcz60_1 : w57.cell? ⟨gb554, 1, none⟩ = some (.int .i64 0) := cA BK554 1; have hcz60_2 : w57.cell? ⟨gb554, 2, none⟩ = some (.int .i64 0) := cA BK554 2; have hfz60_0 := blk_frozen BK554.out 0; have hfz60_1 := blk_frozen BK554.out 1; have hfz60_2 := blk_frozen BK554.out 2; have hnb61 := NB543_544.out; have hnc61 := NB544_543.out; have hcz62_0 : w57.cell? ⟨gb543, 0, none⟩ = some (.int .i64 a1_0) := cA BK543 0; have hcz62_1 : w57.cell? ⟨gb543, 1, none⟩ = some (.int .i64 a1_1) := cA BK543 1; have hcz62_2 : w57.cell? ⟨gb543, 2, none⟩ = some (.int .i64 a1_2) := cA BK543 2; have hcz62_3 : w57.cell? ⟨gb543, 3, none⟩ = some (.int .i64 a1_3) := cA BK543 3; have hfz62_0 := blk_frozen BK543.out 0; have hfz62_1 := blk_frozen BK543.out 1; have hfz62_2 := blk_frozen BK543.out 2; have hfz62_3 := blk_frozen BK543.out 3) | ((with_reducible refine gate_callee (f := 68) rfl ?_); refine goesL_ (some 47) rfl rfl Try.func68 (by kernel_rfl) rfl #[.int .i64 a0, .agg #[.int .i64 a1_0, .int .i64 a1_1, .int .i64 a1_2, .int .i64 a1_3], .agg #[.int .i64 ((rd_T39 (rd_L2 t545 x33_1) x39_2).f0), .int .i64 ((rd_T39 (rd_L2 t545 x33_1) x39_2).f1), .int .i64 ((rd_T39 (rd_L2 t545 x33_1) x39_2).f2)]] rfl hA ?_; (with_reducible refine (impl_moveBall.calls k2 a0 a1_0 a1_1 a1_2 a1_3 ((rd_T39 (rd_L2 t545 x33_1) x39_2).f0) ((rd_T39 (rd_L2 t545 x33_1) x39_2).f1) ((rd_T39 (rd_L2 t545 x33_1) x39_2).f2) t555 t556 t557 false _ A22.out).mono ?_); rintro e w63 ⟨rfl, hb⟩; refine ⟨_, rfl, ?_⟩; have n0_ := Aside0.mk (Kd.R_below (by (with_reducible repeat (first | apply Kd.R_alloc | apply Kd.R_drewN | apply Kd.R_drew)); exact (Kd.R_mono (Kd.R_far (p := ⟨gb554, 2, none⟩) (Kd.R_far (p := ⟨gb554, 1, none⟩) (Kd.R_far (p := ⟨gb554, 0, none⟩) (Kd.R_mono HO_14.out (fun k_ hk => (⟨hk, hk.2⟩ : _ ∧ k_ ≠ gb554))) (fun _ hk => hk.2) (.int .i64 ((rd_T39 (rd_L2 t545 x33_1) x39_2).f0))) (fun _ hk => hk.2) (.int .i64 ((rd_T39 (rd_L2 t545 x33_1) x39_2).f1))) (fun _ hk => hk.2) (.int .i64 ((rd_T39 (rd_L2 t545 x33_1) x39_2).f2))) (fun _ h_ => h_.1))) hb); have n1_ := Aside0.mk (Kd.N_below (by (with_reducible repeat (first | apply Kd.N_alloc | apply Kd.N_drewN | apply Kd.N_drew)); exact (Kd.N_mono (Kd.N_far (p := ⟨gb554, 2, none⟩) (Kd.N_far (p := ⟨gb554, 1, none⟩) (Kd.N_far (p := ⟨gb554, 0, none⟩) (Kd.N_mono HO_31.out (fun k_ hk => (⟨hk, hk.2⟩ : _ ∧ k_ ≠ gb554))) (fun _ hk => hk.2) (.int .i64 ((rd_T39 (rd_L2 t545 x33_1) x39_2).f0))) (fun _ hk => hk.2) (.int .i64 ((rd_T39 (rd_L2 t545 x33_1) x39_2).f1))) (fun _ hk => hk.2) (.int .i64 ((rd_T39 (rd_L2 t545 x33_1) x39_2).f2))) (fun _ h_ => h_.1))) hb); have n2_ := Aside0.mk (Kd.V_below (by (with_reducible repeat (first | apply Kd.V_alloc | apply Kd.V_drewN | apply Kd.V_drew)); exact (Kd.V_mono (Kd.V_far (p := ⟨gb554, 2, none⟩) (Kd.V_far (p := ⟨gb554, 1, none⟩) (Kd.V_far (p := ⟨gb554, 0, none⟩) (Kd.V_mono HO_37.out (fun k_ hk => (⟨hk, hk.2⟩ : _ ∧ k_ ≠ gb554))) (fun _ hk => hk.2) (.int .i64 ((rd_T39 (rd_L2 t545 x33_1) x39_2).f0))) (fun _ hk => hk.2) (.int .i64 ((rd_T39 (rd_L2 t545 x33_1) x39_2).f1))) (fun _ hk => hk.2) (.int .i64 ((rd_T39 (rd_L2 t545 x33_1) x39_2).f2))) (fun _ h_ => h_.1))) hb); have n3_ := Aside0.mk (blk_below (g := gb543) (o := .cells #[.int .i64 a1_0, .int .i64 a1_1, .int .i64 a1_2, .int .i64 a1_3] 26 (0, 0)) (bkF BK543) hb); have n4_ := Aside0.mk (blk_below (g := gb544) (o := .cells #[.int .i64 a2_0, .int .i64 a2_1, .int .i64 a2_2] 39 (0, 0)) (bkF BK544) hb); have n5_ := Aside0.mk (blk_below (g := gb554) (o := .cells #[.int .i64 ((rd_T39 (rd_L2 t545 x33_1) x39_2).f0), .int .i64 ((rd_T39 (rd_L2 t545 x33_1) x39_2).f1), .int .i64 ((rd_T39 (rd_L2 t545 x33_1) x39_2).f2)] 39 (0, 0)) (by (with_reducible repeat (first | refine blk_drewN ?_ _ | refine blk_drew ?_ | refine blk_alloc ?_ _)); refine blk_put (cs := #[.int .i64 ((rd_T39 (rd_L2 t545 x33_1) x39_2).f0), .int .i64 ((rd_T39 (rd_L2 t545 x33_1) x39_2).f1), .int .i64 0]) ?_ 2 _ rfl; (with_reducible repeat (first | refine blk_drewN ?_ _ | refine blk_drew ?_ | refine blk_alloc ?_ _)); refine blk_put (cs := #[.int .i64 ((rd_T39 (rd_L2 t545 x33_1) x39_2).f0), .int .i64 0, .int .i64 0]) ?_ 1 _ rfl; (with_reducible repeat (first | refine blk_drewN ?_ _ | refine blk_drew ?_ | refine blk_alloc ?_ _)); refine blk_put (cs := #[.int .i64 0, .int .i64 0, .int .i64 0]) ?_ 0 _ rfl; (with_reducible repeat (first | refine blk_drewN ?_ _ | refine blk_drew ?_ | refine blk_alloc ?_ _)); exact BK554.out) hb); have n6_ := lB hb; clear HO_14; clear HO_31; clear HO_37; clear BK543; clear BK544; clear BK554; clear HB; have HO_14 := n0_; have HO_31 := n1_; have HO_37 := n2_; have BK543 := n3_; have BK544 := n4_; have BK554 := n5_; have HB := n6_; clear n0_ n1_ n2_ n3_ n4_ n5_ n6_; (try clear hb); (try clear hb2); (try clear hk); (try clear hi)) | ((with_reducible refine gate_dst (N := 19) rfl ?_); refine box_event ?hg (N := 19) ?hd (cs := #[.int .i64 0, .int .i64 0, .int .i64 0]) (t := 39) ?hr ?_; (case hd => rfl); (case hg => rfl); (case hr => first | (go_simp; done) | (go_simp; rfl)); intro gb559 hg w64 hbox hb; have BK559 := Aside0.mk (hbox); have GW559 := sA hg; have GE559 := sA hg; have NB543_559 := nA hg BK543; have NB559_543 := nB hg BK543; have NB544_559 := nA hg BK544; have NB559_544 := nB hg BK544; have NB554_559 := nA hg BK554; have NB559_554 := nB hg BK554; replace HO_14 := Aside0.mk (Kd.R_below (Kd.R_elderB (rA HO_14) gb559 (Nat.le_of_eq hg.symm)) hb); replace HO_31 := Aside0.mk (Kd.N_below (Kd.N_elderB (rN HO_31) gb559 (Nat.le_of_eq hg.symm)) hb); replace HO_37 := Aside0.mk (Kd.V_below (Kd.V_elderB (rV HO_37) gb559 (Nat.le_of_eq hg.symm)) hb); replace BK543 := kB BK543 hb; replace BK544 := kB BK544 hb; replace BK554 := kB BK554 hb; replace HB := lB hb; clear hb hbox hg; have hnb65 := NB559_543.out; have hnc65 := NB543_559.out; have hnb66 := NB559_544.out; have hnc66 := NB544_559.out; have hnb67 := NB559_554.out; have hnc67 := NB554_559.out; have hcz68_0 : w64.cell? ⟨gb559, 0, none⟩ = some (.int .i64 0) := cA BK559 0; have hcz68_1 : w64.cell? ⟨gb559, 1, none⟩ = some (.int .i64 0) := cA BK559 1; have hcz68_2 : w64.cell? ⟨gb559, 2, none⟩ = some (.int .i64 0) := cA BK559 2; have hfz68_0 := blk_frozen BK559.out 0; have hfz68_1 := blk_frozen BK559.out 1; have hfz68_2 := blk_frozen BK559.out 2))
             go_ret2
             exact ⟨_, by first | rfl | (simp [errW_none, errW_some] <;> rfl) | (simp [*, errW_none, errW_some] <;> rfl), by first | exact Kd.R_nil _ _ _ _ _ | exact Kd.N_nil _ _ _ _ _ | exact Kd.V_nil _ _ _ _ _ | exact Kd.Q_nil _ _ _ _ _ | exact Kd.S_nil _ _ _ _ _, blA⟩
           ·
            rw [if_neg c21] at H
            exact absurd H (by simp)
          ·
           rw [if_neg c20] at H
           exact absurd H (by simp)
         ·
          rw [if_neg c19] at H
          have c19b0 := decide_eq_false c19
          clear c19
          have H' := Aside0.mk H
          clear H
          go_wp2
          go_roundg k2
          case measure => have := HK1.out; have := HK2.out; omega
          case rel => exact ⟨(x14_2), (wrap64 (x33_1 + 1)), hB, H', ⟨by have := HK1.out; have := HK2.out; omega⟩, ⟨rA HO_14⟩, ⟨rN HO_31⟩, ⟨bkA BK543⟩, ⟨bkA BK544⟩, ⟨blA⟩⟩
      ·
       rw [if_neg c18] at H
       exact absurd H (by simp)
     ·
      rw [if_neg c17] at H
      exact absurd H (by simp)
    ·
     rw [if_neg c16] at H
     have c16b0 := decide_eq_false c16
     clear c16
     simp only [Option.some.injEq, Prod.mk.injEq] at H
     obtain ⟨rfl, rfl⟩ := H
     go_wp2
     go_ret2
     exact ⟨_, by first | rfl | (simp [errW_none, errW_some] <;> rfl) | (simp [*, errW_none, errW_some] <;> rfl), by (with_reducible repeat (first | apply Kd.R_alloc | apply Kd.R_drewN | apply Kd.R_drew)); exact Kd.R_mono HO_14.out (fun _ hk => trivial), blA⟩
 ·
  replace c7 := Bool.eq_false_iff.mpr c7
  subst c7
  rw [if_neg (show ¬ (false = true) by decide)] at H
  try dsimp only at H
  simp only [Option.some.injEq, Prod.mk.injEq] at H
  obtain ⟨rfl, rfl⟩ := H
  go_enter Try.func74, Try.ntmps74
  go_wp2_with (first | ((with_reducible refine gate_dst (N := 6) rfl ?_); refine box_event ?hg (N := 6) ?hd (cs := #[.int .i64 a1_0, .int .i64 a1_1, .int .i64 a1_2, .int .i64 a1_3]) (t := 26) ?hr ?_; (case hd => rfl); (case hg => rfl); (case hr => first | (go_simp; done) | (go_simp; rfl)); intro gb543 hg w69 hbox hb; have BK543 := Aside0.mk (hbox); have GW543 := sA hg; have GE543 := sA hg; replace HB := lB hb; clear hb hbox hg) | ((with_reducible refine gate_dst (N := 7) rfl ?_); refine box_event ?hg (N := 7) ?hd (cs := #[.int .i64 a2_0, .int .i64 a2_1, .int .i64 a2_2]) (t := 39) ?hr ?_; (case hd => rfl); (case hg => rfl); (case hr => first | (go_simp; done) | (go_simp; rfl)); intro gb544 hg w70 hbox hb; have BK544 := Aside0.mk (hbox); have GW544 := sA hg; have GE544 := sA hg; have NB543_544 := nA hg BK543; have NB544_543 := nB hg BK543; replace BK543 := kB BK543 hb; replace HB := lB hb; clear hb hbox hg; have hnb71 := NB544_543.out; have hnc71 := NB543_544.out; have hcz72_0 : w70.cell? ⟨gb544, 0, none⟩ = some (.int .i64 a2_0) := cA BK544 0; have hcz72_1 : w70.cell? ⟨gb544, 1, none⟩ = some (.int .i64 a2_1) := cA BK544 1; have hcz72_2 : w70.cell? ⟨gb544, 2, none⟩ = some (.int .i64 a2_2) := cA BK544 2; have hfz72_0 := blk_frozen BK544.out 0; have hfz72_1 := blk_frozen BK544.out 1; have hfz72_2 := blk_frozen BK544.out 2) | ((with_reducible refine gate_callee (f := 65) rfl ?_); refine goesL_ (some 25) rfl rfl Try.func65 (by kernel_rfl) rfl #[.int .i64 a0, .agg #[.int .i64 a2_0, .int .i64 a2_1, .int .i64 a2_2], .int .i64 a3] rfl hA ?_; (with_reducible refine (impl_spheres.calls k a0 a2_0 a2_1 a2_2 a3 t545 false _ A6.out).mono ?_); rintro e w73 ⟨v546, rfl, ho0, hb⟩; refine ⟨_, rfl, ?_⟩; have HO547 := Aside0.mk (Kd.N_lower (Kd.N_mono (ok' := fun k_ => k_ ≠ gb543 ∧ k_ ≠ gb544) ho0 (fun k_ hk_ => ⟨(Kd.freshB (bkA BK543) k_ hk_), (Kd.freshB (bkA BK544) k_ hk_)⟩)) (below_size blA)); replace BK543 := kB BK543 hb; replace BK544 := kB BK544 hb; replace HB := lB hb; (try clear hb); (try clear hb2); (try clear hk); (try clear hi); (try clear ho0)))
  go_ret2
  exact ⟨_, by first | rfl | (simp [errW_none, errW_some] <;> rfl) | (simp [*, errW_none, errW_some] <;> rfl), by first | exact Kd.R_nil _ _ _ _ _ | exact Kd.N_nil _ _ _ _ _ | exact Kd.V_nil _ _ _ _ _ | exact Kd.Q_nil _ _ _ _ _ | exact Kd.S_nil _ _ _ _ _, blA⟩
end Go.Proofs.Ytccpccnnbacgjaa.PAll
