-- turned for this claim out of the kit's print: the same functions, packed anew
import Derived.Test.YtccpccnnbacgjaaQx
import Derived.Test.YtccpccnnbacgjaaQimplneighbour
import Derived.Test.YtccpccnnbacgjaaQspecSphereAround
import Derived.Test.YtccpccnnbacgjaaQspecl04Move
namespace Go.Proofs.Ytccpccnnbacgjaa.PAll
open Go.RowKit Go.Proofs.YtccpccnnbacgjaaW.PrintWords Go.Proofs.YtccpccnnbacgjaaW.PrintLast Go.Proofs.YtccpccnnbacgjaaW.PrintMore
attribute [local go_sem] Go.Proofs.Ytccpccnnbacgjaa.Aux.setCell_drewN Go.Proofs.Ytccpccnnbacgjaa.Aux.isSome_setCell max2_int min2_int max_two min_two max_three min_three max_four min_four   -- for this text's walks alone
set_option linter.unusedVariables false
set_option linter.unusedSimpArgs false
/-! ### spec_l04Near: function 72 -/
mutual
def spec_l04Near.l0 : Nat → Int → Int → Int → List (S39) → Int → Int → Int → Int → Int → Int → Int → Int → Option ((List (S39)) × Int)
 | 0, _, _, _, _, _, _, _, _, _, _, _, _ => none
 | k + 1, x0, x3, x4, x12, x13, x497000, x497001, x497002, x497003, x498000, x498001, x498002 => if x13 ≤ x3 then ((spec_SphereAround.f k x0 x498000 x498001 x498002 x13).bind fun bt501 => (if bt501.2 = 0 then (spec_l04Near.l1 k x0 x3 x4 x12 x13 bt501.1 0 x497000 x497001 x497002 x497003 x498000 x498001 x498002) else (some (([] : List (S39)), bt501.2)))) else (some (x12, 0))
def spec_l04Near.l1 : Nat → Int → Int → Int → List (S39) → Int → List (S39) → Int → Int → Int → Int → Int → Int → Int → Int → Option ((List (S39)) × Int)
 | 0, _, _, _, _, _, _, _, _, _, _, _, _, _, _ => none
 | k + 1, x0, x3, x4, x12, x13, x14, x16, x497000, x497001, x497002, x497003, x498000, x498001, x498002 => if x16 < (x14.length : Int) then (if 0 ≤ x16 then ((spec_l04Move.f k x0 x497000 x497001 x497002 x497003 ((rd_T39 x14 x16).f0) ((rd_T39 x14 x16).f1) ((rd_T39 x14 x16).f2)).bind fun bt506 => (if bt506.2.2.2 = true then ((spec_l02Distance.f k x0 ((rd_T39 x14 x16).f0) ((rd_T39 x14 x16).f1) ((rd_T39 x14 x16).f2) bt506.1 bt506.2.1 bt506.2.2.1).bind fun t512 => (if t512 = x4 then (if x12.length < 5864062014805 then (spec_l04Near.l1 k x0 x3 x4 (x12 ++ [(⟨(rd_T39 x14 x16).f0, (rd_T39 x14 x16).f1, (rd_T39 x14 x16).f2⟩ : S39)]) x13 x14 (wrap64 (x16 + 1)) x497000 x497001 x497002 x497003 x498000 x498001 x498002) else (none)) else (spec_l04Near.l1 k x0 x3 x4 x12 x13 x14 (wrap64 (x16 + 1)) x497000 x497001 x497002 x497003 x498000 x498001 x498002))) else (some (([] : List (S39)), 3)))) else (none)) else (spec_l04Near.l0 k x0 x3 x4 x12 (wrap64 (x13 + 1)) x497000 x497001 x497002 x497003 x498000 x498001 x498002)
end
def spec_l04Near.f (k : Nat) (a0 : Int) (a1_0 : Int) (a1_1 : Int) (a1_2 : Int) (a1_3 : Int) (a2_0 : Int) (a2_1 : Int) (a2_2 : Int) (a3 : Int) (a4 : Int) : Option ((List (S39)) × Int) := spec_l04Near.l0 k a0 a3 a4 (([] : List (S39))) 0 a1_0 a1_1 a1_2 a1_3 a2_0 a2_1 a2_2
theorem spec_l04Near.mono_l : ∀ k, (∀ y0 y1 y2 y3 y4 y5 y6 y7 y8 y9 y10 y11, LeO (spec_l04Near.l0 k y0 y1 y2 y3 y4 y5 y6 y7 y8 y9 y10 y11) (spec_l04Near.l0 (k + 1) y0 y1 y2 y3 y4 y5 y6 y7 y8 y9 y10 y11)) ∧ (∀ y0 y1 y2 y3 y4 y5 y6 y7 y8 y9 y10 y11 y12 y13, LeO (spec_l04Near.l1 k y0 y1 y2 y3 y4 y5 y6 y7 y8 y9 y10 y11 y12 y13) (spec_l04Near.l1 (k + 1) y0 y1 y2 y3 y4 y5 y6 y7 y8 y9 y10 y11 y12 y13))
 | 0 => ⟨fun _ _ _ _ _ _ _ _ _ _ _ _ r h => by simp [spec_l04Near.l0] at h, fun _ _ _ _ _ _ _ _ _ _ _ _ _ _ r h => by simp [spec_l04Near.l1] at h⟩
 | k + 1 => by
  obtain ⟨ih0, ih1⟩ := spec_l04Near.mono_l k
  refine ⟨?_, ?_⟩
  ·
   intro y0 y1 y2 y3 y4 y5 y6 y7 y8 y9 y10 y11
   unfold spec_l04Near.l0
   repeat' first
   | (with_reducible exact ih0 _ _ _ _ _ _ _ _ _ _ _ _)
   | (with_reducible exact ih1 _ _ _ _ _ _ _ _ _ _ _ _ _ _)
   | (with_reducible exact spec_SphereAround.mono _ _ _ _ _ _)
   | (with_reducible exact spec_l02Distance.mono _ _ _ _ _ _ _ _)
   | (with_reducible exact spec_l04Move.mono _ _ _ _ _ _ _ _ _)
   | (with_reducible exact LeO.refl _)
   | (with_reducible exact LeO.none _)
   | (with_reducible refine LeO.ite ?_ ?_)
   | (with_reducible refine LeO.bind ?_ (fun _ => ?_))
  ·
   intro y0 y1 y2 y3 y4 y5 y6 y7 y8 y9 y10 y11 y12 y13
   unfold spec_l04Near.l1
   repeat' first
   | (with_reducible exact ih0 _ _ _ _ _ _ _ _ _ _ _ _)
   | (with_reducible exact ih1 _ _ _ _ _ _ _ _ _ _ _ _ _ _)
   | (with_reducible exact spec_SphereAround.mono _ _ _ _ _ _)
   | (with_reducible exact spec_l02Distance.mono _ _ _ _ _ _ _ _)
   | (with_reducible exact spec_l04Move.mono _ _ _ _ _ _ _ _ _)
   | (with_reducible exact LeO.refl _)
   | (with_reducible exact LeO.none _)
   | (with_reducible refine LeO.ite ?_ ?_)
   | (with_reducible refine LeO.bind ?_ (fun _ => ?_))
theorem spec_l04Near.mono : ∀ a0 a1 a2 a3 a4 a5 a6 a7 a8 a9 k, LeO (spec_l04Near.f k a0 a1 a2 a3 a4 a5 a6 a7 a8 a9) (spec_l04Near.f (k + 1) a0 a1 a2 a3 a4 a5 a6 a7 a8 a9) := by
 intro a0 a1 a2 a3 a4 a5 a6 a7 a8 a9 k
 obtain ⟨ih0, ih1⟩ := spec_l04Near.mono_l k
 unfold spec_l04Near.f
 repeat' first
   | (with_reducible exact ih0 _ _ _ _ _ _ _ _ _ _ _ _)
   | (with_reducible exact ih1 _ _ _ _ _ _ _ _ _ _ _ _ _ _)
   | (with_reducible exact spec_SphereAround.mono _ _ _ _ _ _)
   | (with_reducible exact spec_l02Distance.mono _ _ _ _ _ _ _ _)
   | (with_reducible exact spec_l04Move.mono _ _ _ _ _ _ _ _ _)
   | (with_reducible exact LeO.refl _)
   | (with_reducible exact LeO.none _)
   | (with_reducible refine LeO.ite ?_ ?_)
   | (with_reducible refine LeO.bind ?_ (fun _ => ?_))
def spec_l04Near.T11 : Bool × List (List Nat × List Nat) := (true, [([], []), ([], []), ([], []), ([], []), ([2, 3], [2, 3]), ([4], [4]), ([0, 1, 5], [0, 1, 5]), ([6], [6]), ([7], [7]), ([7], [7]), ([], []), ([10, 8, 6, 0, 1, 2, 3, 4, 5, 6, 7, 8, 10], [8, 10]), ([9, 11, 0, 1, 2, 3, 4, 5, 6, 7, 8, 9, 10, 11], [9])])
def spec_l04Near.B11 : List Nat := [0, 0, 0, 0, 12, 28, 63, 127, 255, 255, 0, 1535, 4095]
theorem spec_l04Near.tab11 : rtab .any (opsOf Try.f72 11) = spec_l04Near.T11 := by kernel_rfl
theorem spec_l04Near.bits11 : waitsOk spec_l04Near.T11.2 spec_l04Near.B11 = true := by kernel_rfl
def spec_l04Near.T14 : Bool × List (List Nat × List Nat) := (true, [([], []), ([], []), ([], []), ([1, 2], [1, 2]), ([3], [3]), ([], []), ([0, 4, 5], [0, 4, 5]), ([], []), ([6, 7], [6, 7])])
def spec_l04Near.B14 : List Nat := [0, 0, 0, 6, 14, 0, 63, 0, 255]
theorem spec_l04Near.tab14 : rtab .any (opsOf Try.f72 14) = spec_l04Near.T14 := by kernel_rfl
theorem spec_l04Near.bits14 : waitsOk spec_l04Near.T14.2 spec_l04Near.B14 = true := by kernel_rfl
set_option maxHeartbeats 8000000 in
set_option maxRecDepth 100000 in
theorem spec_l04Near.calls (k : Nat) (a0 : Int) (a1_0 : Int) (a1_1 : Int) (a1_2 : Int) (a1_3 : Int) (a2_0 : Int) (a2_1 : Int) (a2_2 : Int) (a3 : Int) (a4 : Int) (r1 : List (S39)) (r2 : Int) (w : World) (h : spec_l04Near.f k a0 a1_0 a1_1 a1_2 a1_3 a2_0 a2_1 a2_2 a3 a4 = some (r1, r2)) :
  Calls Try.prog 72 #[.int .i64 a0, .agg #[.int .i64 a1_0, .int .i64 a1_1, .int .i64 a1_2, .int .i64 a1_3], .agg #[.int .i64 a2_0, .int .i64 a2_1, .int .i64 a2_2], .int .i64 a3, .int .i64 a4] w fun e w' => ∃ v0_ : Value, e = .returned (.tuple #[v0_, .int .i64 r2]) ∧ Kd.R k39 39 w' w.heap.size (fun _ => True) v0_ r1 ∧ Below w.heap.size w w' := by
 have hu26 := Try.underlying26
 have hu39 := Try.underlying39
 have HB := Aside0.mk (Below.refl w.heap.size w)
 have H := h
 unfold spec_l04Near.f at H
 clear h
 obtain ⟨y498, hy498⟩ : ∃ y_ : List (S39), y_ = (([] : List (S39))) := ⟨_, rfl⟩
 replace H : (spec_l04Near.l0 k a0 a3 a4 y498 0 a1_0 a1_1 a1_2 a1_3 a2_0 a2_1 a2_2) = some (r1, r2) := by first | (rw [hy498]; with_reducible exact H) | (have H2_ := (Option.bind_some _ _).symm.trans H; rw [hy498]; with_reducible exact H2_) | (have H2_ := (Option.bind_some _ _).symm.trans H; with_reducible exact H2_) | with_reducible exact H | (rw [hy498]; exact H) | exact H
 have Ny498 := Aside0.mk hy498
 clear hy498
 have H' := Aside0.mk H
 clear H
 go_enter Try.func72, Try.ntmps72
 go_wp2_with (first | ((with_reducible refine gate_dst (N := 6) rfl ?_); refine box_event ?hg (N := 6) ?hd (cs := #[.int .i64 a1_0, .int .i64 a1_1, .int .i64 a1_2, .int .i64 a1_3]) (t := 26) ?hr ?_; (case hd => rfl); (case hg => rfl); (case hr => first | (go_simp; done) | (go_simp; rfl)); intro gb496 hg w6 hbox hb; have n0_ := lB hb; have n1_ := Aside0.mk (hbox); have n2_ := sA hg; have n3_ := sA hg; clear HB; have HB := n0_; have BK496 := n1_; have GW496 := n2_; have GE496 := n3_; clear n0_ n1_ n2_ n3_; clear hb hbox hg) | ((with_reducible refine gate_dst (N := 7) rfl ?_); refine box_event ?hg (N := 7) ?hd (cs := #[.int .i64 a2_0, .int .i64 a2_1, .int .i64 a2_2]) (t := 39) ?hr ?_; (case hd => rfl); (case hg => rfl); (case hr => first | (go_simp; done) | (go_simp; rfl)); intro gb497 hg w7 hbox hb; have n0_ := kB BK496 hb; have n1_ := lB hb; have n2_ := Aside0.mk (hbox); have n3_ := sA hg; have n4_ := sA hg; have n5_ := nA hg BK496; have n6_ := nB hg BK496; clear BK496; clear HB; have BK496 := n0_; have HB := n1_; have BK497 := n2_; have GW497 := n3_; have GE497 := n4_; have NB496_497 := n5_; have NB497_496 := n6_; clear n0_ n1_ n2_ n3_ n4_ n5_ n6_; clear hb hbox hg) | ((with_reducible refine gate_dst (N := 19) rfl ?_); refine Kd.R_lit k39 _ 39 ?hg (N := 19) ?hd (xs := ([] : List (S39))) (inner := []) (ok := fun _ => True) (okp := fun _ => True) ?hr ?hp (fun _ hk => hk) trivial (Below.refl _ _) (Nat.le_refl _) (by simp) ?_; (case hd => rfl); (case hg => rfl); (case hr => first | (go_simp; done) | (go_simp; rfl)); (case hp => exact (Reps.none _ _)); intro v499 w8 ho9 hb hg_ hnew_; clear hg_ hnew_; (first | rw [← Ny498.out] at ho9 | (simp only [Int.reduceToNat] at ho9; rw [← Ny498.out] at ho9)); have n0_ := Aside0.mk (Kd.R_lower (Kd.R_newB ho9 (bkA BK497)) (below_size blA)); have n1_ := kB BK496 hb; have n2_ := kB BK497 hb; have n3_ := lB hb; clear BK496; clear BK497; clear HB; have HO500 := n0_; have BK496 := n1_; have BK497 := n2_; have HB := n3_; clear n0_ n1_ n2_ n3_; clear hb ho9))
 go_loopg [12, 13] k (fun kq v12 v13 w' => ∃ (x12_1 : List (S39)) (x13_1 : Int), v13 = .int .i64 x13_1 ∧ Aside0 (spec_l04Near.l0 kq a0 a3 a4 x12_1 x13_1 a1_0 a1_1 a1_2 a1_3 a2_0 a2_1 a2_2 = some (r1, r2)) ∧ Aside0 (kq ≤ k) ∧ Aside0 (Kd.R k39 39 w' w.heap.size (fun k_ => k_ ≠ gb497) v12 x12_1) ∧ Aside0 (w'.heap[gb496]? = some (.cells #[.int .i64 a1_0, .int .i64 a1_1, .int .i64 a1_2, .int .i64 a1_3] 26 (0, 0))) ∧ Aside0 (w'.heap[gb497]? = some (.cells #[.int .i64 a2_0, .int .i64 a2_1, .int .i64 a2_2] 39 (0, 0))) ∧ Aside0 (Below w.heap.size w w'))
 case atStart => exact ⟨(y498), (0), hB, H', ⟨Nat.le_refl _⟩, ⟨by (with_reducible repeat (first | apply Kd.R_alloc | apply Kd.R_drewN | apply Kd.R_drew)); exact Kd.R_mono HO500.out (fun _ hk => hk.2)⟩, ⟨bkA BK496⟩, ⟨bkA BK497⟩, ⟨blA⟩⟩
 case round =>
  clear H'
  obtain ⟨x12_1, x13_1, rfl, HA, HK1, HO_12, BK496, BK497, HB⟩ := hrel
  cases gk with
  | zero => exact absurd HA.out (by simp [spec_l04Near.l0])
  | succ k1 =>
   have H := HA.out
   clear HA
   simp only [spec_l04Near.l0] at H
   by_cases c10 : x13_1 ≤ a3
   ·
    rw [if_pos c10] at H
    have c10b0 := decide_eq_true c10
    clear c10
    replace H := bS H
    obtain ⟨⟨t501, t504⟩, A11, H⟩ := H
    try dsimp only at H
    by_cases c12 : t504 = 0
    ·
     rw [if_pos c12] at H
     have c12b0 : (t504 == 0) = true := beq_iff_eq.mpr c12
     have c12b1 : (t504 != 0) = false := bne_eq_false_iff_eq.mpr c12
     clear c12
     have H' := Aside0.mk H
     clear H
     have hnb13 := NB497_496.out
     have hnc13 := NB496_497.out
     have hcz14_0 : wr.cell? ⟨gb497, 0, none⟩ = some (.int .i64 a2_0) := cA BK497 0
     have hcz14_1 : wr.cell? ⟨gb497, 1, none⟩ = some (.int .i64 a2_1) := cA BK497 1
     have hcz14_2 : wr.cell? ⟨gb497, 2, none⟩ = some (.int .i64 a2_2) := cA BK497 2
     have hfz14_0 := blk_frozen BK497.out 0
     have hfz14_1 := blk_frozen BK497.out 1
     have hfz14_2 := blk_frozen BK497.out 2
     go_wp2_with (first | ((with_reducible refine gate_callee (f := 61) rfl ?_); refine goesL_ (some 29) rfl rfl Try.func61 (by kernel_rfl) rfl #[.int .i64 a0, .agg #[.int .i64 a2_0, .int .i64 a2_1, .int .i64 a2_2], .int .i64 x13_1] rfl hA ?_; (with_reducible refine (spec_SphereAround.calls k1 a0 a2_0 a2_1 a2_2 x13_1 t501 t504 _ A11.out).mono ?_); rintro e w15 ⟨v502, rfl, ho0, hb⟩; refine ⟨_, rfl, ?_⟩; have n0_ := Aside0.mk (Kd.R_elder' (rA HO_12) (Kd.R_base ho0) hb); have n1_ := Aside0.mk (Kd.R_lower (Kd.R_newB (Kd.R_new' ho0 (Kd.R_lt (rA HO_12))) (bkA BK497)) (below_size blA)); have n2_ := kB BK496 hb; have n3_ := kB BK497 hb; have n4_ := lB hb; clear HO_12; clear BK496; clear BK497; clear HB; have HO_12 := n0_; have HO503 := n1_; have BK496 := n2_; have BK497 := n3_; have HB := n4_; clear n0_ n1_ n2_ n3_ n4_; (try clear hb); (try clear hb2); (try clear hk); (try clear hi); (try clear ho0)))
     go_loopg [12, 16] k1 (fun kq v12 v16 w' => ∃ (x12_2 : List (S39)) (x16_2 : Int), v16 = .int .i64 x16_2 ∧ Aside0 (spec_l04Near.l1 kq a0 a3 a4 x12_2 x13_1 t501 x16_2 a1_0 a1_1 a1_2 a1_3 a2_0 a2_1 a2_2 = some (r1, r2)) ∧ Aside0 (kq ≤ k1) ∧ Aside0 (Kd.R k39 39 w' w.heap.size (fun k_ => some k_ ≠ (v502 : Value).ownBlock ∧ k_ ≠ gb497) v12 x12_2) ∧ Aside0 (Kd.R k39 39 w' w.heap.size (fun k_ => some k_ ≠ (v12 : Value).ownBlock ∧ k_ ≠ gb497) v502 t501) ∧ Aside0 (w'.heap[gb496]? = some (.cells #[.int .i64 a1_0, .int .i64 a1_1, .int .i64 a1_2, .int .i64 a1_3] 26 (0, 0))) ∧ Aside0 (w'.heap[gb497]? = some (.cells #[.int .i64 a2_0, .int .i64 a2_1, .int .i64 a2_2] 39 (0, 0))) ∧ Aside0 (Below w.heap.size w w'))
     case atStart => exact ⟨(x12_1), (0), hB, H', ⟨Nat.le_refl _⟩, ⟨by (with_reducible repeat (first | apply Kd.R_alloc | apply Kd.R_drewN | apply Kd.R_drew)); exact Kd.R_mono HO_12.out (fun _ hk => ⟨hk.2, hk.1⟩)⟩, ⟨by (with_reducible repeat (first | apply Kd.R_alloc | apply Kd.R_drewN | apply Kd.R_drew)); exact Kd.R_mono HO503.out (fun _ hk => ⟨hk.1.2, hk.2⟩)⟩, ⟨bkA BK496⟩, ⟨bkA BK497⟩, ⟨blA⟩⟩
     case round =>
      clear H'
      try clear c10
      try clear c10b0
      try clear c12
      try clear c12b0
      try clear c12b1
      try clear hcz14_0
      try clear hcz14_1
      try clear hcz14_2
      try clear hfz14_0
      try clear hfz14_1
      try clear hfz14_2
      obtain ⟨x12_2, x16_2, rfl, HA, HK2, HO_12, HO_14, BK496, BK497, HB⟩ := hrel
      cases gk with
      | zero => exact absurd HA.out (by simp [spec_l04Near.l1])
      | succ k2 =>
       have H := HA.out
       clear HA
       simp only [spec_l04Near.l1] at H
       by_cases c16 : x16_2 < (t501.length : Int)
       ·
        rw [if_pos c16] at H
        have c16b0 := decide_eq_true c16
        clear c16
        by_cases c17 : 0 ≤ x16_2
        ·
         rw [if_pos c17] at H
         have c17b0 := decide_eq_true c17
         clear c17
         replace H := bS H
         obtain ⟨⟨t506, t507, t508, t509⟩, A18, H⟩ := H
         try dsimp only at H
         by_cases c19 : t509 = true
         ·
          subst c19
          rw [if_pos rfl] at H
          try dsimp only at H
          replace H := bS H
          obtain ⟨t512, A20, H⟩ := H
          try dsimp only at H
          by_cases c21 : t512 = a4
          ·
           rw [if_pos c21] at H
           have c21b0 : (t512 == a4) = true := beq_iff_eq.mpr c21
           have c21b1 : (t512 != a4) = false := bne_eq_false_iff_eq.mpr c21
           clear c21
           by_cases c22 : x12_2.length < 5864062014805
           ·
            rw [if_pos c22] at H
            have LMc22 := Aside0.mk c22
            clear c22
            obtain ⟨y514, hy514⟩ : ∃ y_ : List (S39), y_ = (x12_2 ++ [(⟨(rd_T39 t501 x16_2).f0, (rd_T39 t501 x16_2).f1, (rd_T39 t501 x16_2).f2⟩ : S39)]) := ⟨_, rfl⟩
            replace H : (spec_l04Near.l1 k2 a0 a3 a4 y514 x13_1 t501 (wrap64 (x16_2 + 1)) a1_0 a1_1 a1_2 a1_3 a2_0 a2_1 a2_2) = some (r1, r2) := by first | (rw [hy514]; with_reducible exact H) | (have H2_ := (Option.bind_some _ _).symm.trans H; rw [hy514]; with_reducible exact H2_) | (have H2_ := (Option.bind_some _ _).symm.trans H; with_reducible exact H2_) | with_reducible exact H | (rw [hy514]; exact H) | exact H
            have Ny514 := Aside0.mk hy514
            clear hy514
            have H' := Aside0.mk H
            clear H
            obtain ⟨Ao23, co23, eo23⟩ := Kd.R_slice HO_14.out
            subst eo23
            try go_wp2
            have n0_ := Aside0.mk (Kd.R_drew HO_12.out)
            have n1_ := Aside0.mk (Kd.R_drew HO_14.out)
            have n2_ := Aside0.mk (blk_drew BK496.out)
            have n3_ := Aside0.mk (blk_drew BK497.out)
            have n4_ := Aside0.mk (below_drew1 HB.out)
            clear HO_12
            clear HO_14
            clear BK496
            clear BK497
            clear HB
            have HO_12 := n0_
            have HO_14 := n1_
            have BK496 := n2_
            have BK497 := n3_
            have HB := n4_
            clear n0_ n1_ n2_ n3_ n4_
            have p505 : 0 ≤ (x16_2 : Int) := dA
            have q505 : x16_2 < (t501.length : Int) := dA
            obtain ⟨ad505, e505, hx505_0, hx505_1, hx505_2⟩ := at_T39 (Kd.R_reads' HO_14.out).2.2 x16_2 p505 q505
            cases e505
            replace p505 := eq_true p505
            replace q505 := eq_true q505
            refine start_ (n := 13) (S := fun w' => w'.cell? ⟨gb496, 0, none⟩ = some (.int .i64 a1_0) ∧ w'.cell? ⟨gb496, 1, none⟩ = some (.int .i64 a1_1) ∧ w'.cell? ⟨gb496, 2, none⟩ = some (.int .i64 a1_2) ∧ w'.cell? ⟨gb496, 3, none⟩ = some (.int .i64 a1_3) ∧ w'.cell? (ad505.add ((x16_2).toNat * 3)) = some (.int .i64 ((rd_T39 t501 x16_2).f0)) ∧ w'.cell? ⟨(ad505.add ((x16_2).toNat * 3)).block, (ad505.add ((x16_2).toNat * 3)).off + 1, none⟩ = some (.int .i64 ((rd_T39 t501 x16_2).f1)) ∧ w'.cell? ⟨(ad505.add ((x16_2).toNat * 3)).block, (ad505.add ((x16_2).toNat * 3)).off + 2, none⟩ = some (.int .i64 ((rd_T39 t501 x16_2).f2))) (ds := []) #[Z, Z, Z, Z, Z, Z, Z, Z, Z, Z, Z, Z, Z] (by kernel_rfl) rfl rfl ⟨cA BK496 0, cA BK496 1, cA BK496 2, cA BK496 3, hx505_0, hx505_1, hx505_2⟩ (fun hHeld => ?_); refine with_tabW spec_l04Near.tab11 spec_l04Near.bits11 (fun HT_ HW_ => ?_)
            generalize wr.drew = w24 at HO_12 HO_14 BK496 BK497 HB hx505_0 hx505_1 hx505_2 hHeld ⊢
            refine pure_ (i := 0) (N := some 42) (v := ?_) (a' := ?_) #[Y, Z, Z, Z, Z, Z, Z, Z, Z, Z, Z, Z, Z] rfl rfl (any_of HT_.out (by kernel_rfl)) (fun _ _ _ h => h) (Or.inl ⟨by rfl, ?_⟩) ?_ ?_
            rotate_left
            ·
             intro w'
             go_simp
             with_reducible rfl
            rotate_left
            ·
             simp only [pA]
             rfl
            refine pure_ (i := 2) (N := some 44) (v := ?_) (a' := ?_) #[Y, Z, Y, Z, Z, Z, Z, Z, Z, Z, Z, Z, Z] rfl rfl (any_of HT_.out (by kernel_rfl)) (fun _ _ _ h => h) (Or.inl ⟨by rfl, ?_⟩) ?_ ?_
            rotate_left
            ·
             intro w'
             go_simp
             with_reducible rfl
            rotate_left
            ·
             simp only [pA]
             rfl
            refine pure_ (i := 3) (N := some 45) (v := ?_) (a' := ?_) #[Y, Z, Y, Y, Z, Z, Z, Z, Z, Z, Z, Z, Z] rfl rfl (any_of HT_.out (by kernel_rfl)) (fun _ _ _ h => h) (Or.inl ⟨by rfl, ?_⟩) ?_ ?_
            rotate_left
            ·
             intro w'
             go_simp
             with_reducible rfl
            rotate_left
            ·
             simp only [pA]
             rfl
            refine pure_ (i := 4) (N := some 46) (v := ?_) (a' := ?_) #[Y, Z, Y, Y, Y, Z, Z, Z, Z, Z, Z, Z, Z] rfl rfl (any_of HT_.out (by kernel_rfl)) (fun _ _ _ h => h) (Or.inl ⟨by rfl, ?_⟩) ?_ ?_
            rotate_left
            ·
             intro w'
             go_simp
             with_reducible rfl
            rotate_left
            ·
             simp only [pA]
             rfl
            refine take_ (i := 1) (N := some 43) (v := ?_) (a' := ?_) #[Y, Y, Y, Y, Y, Z, Z, Z, Z, Z, Z, Z, Z] rfl rfl (take_ofW HT_.out HW_.out (by kernel_rfl)) (fun _ _ _ h => h) (Or.inl ⟨by rfl, ?_⟩) hHeld ?_ ?_
            rotate_left
            ·
             rintro w' ⟨s0, s1, s2, s3, s4, s5, s6⟩
             go_simp
             with_reducible rfl
            rotate_left
            ·
             simp only [pA]
             rfl
            refine take_ (i := 5) (N := some 47) (v := ?_) (a' := ?_) #[Y, Y, Y, Y, Y, Y, Z, Z, Z, Z, Z, Z, Z] rfl rfl (take_ofW HT_.out HW_.out (by kernel_rfl)) (fun _ _ _ h => h) (Or.inl ⟨by rfl, ?_⟩) hHeld ?_ ?_
            rotate_left
            ·
             rintro w' ⟨s0, s1, s2, s3, s4, s5, s6⟩
             go_simp
             with_reducible rfl
            rotate_left
            ·
             simp only [pA]
             rfl
            refine join_ (σ := Nat) 2 #[Y, Y, Y, Y, Y, Y, Y, Y, Y, Y, Y, Z, Z] (fun s_ => [(48, .tuple #[.agg #[.int .i64 t506, .int .i64 t507, .int .i64 t508], .bool true]), (17, .pointer (some ⟨s_, 0, none⟩)), (41, .tuple #[.agg #[.int .i64 t506, .int .i64 t507, .int .i64 t508], .bool true]), (49, .agg #[.int .i64 t506, .int .i64 t507, .int .i64 t508]), (50, .bool true)]) (fun s_ w' => (w'.cell? ⟨gb496, 0, none⟩ = some (.int .i64 a1_0) ∧ w'.cell? ⟨gb496, 1, none⟩ = some (.int .i64 a1_1) ∧ w'.cell? ⟨gb496, 2, none⟩ = some (.int .i64 a1_2) ∧ w'.cell? ⟨gb496, 3, none⟩ = some (.int .i64 a1_3) ∧ w'.cell? (ad505.add ((x16_2).toNat * 3)) = some (.int .i64 ((rd_T39 t501 x16_2).f0)) ∧ w'.cell? ⟨(ad505.add ((x16_2).toNat * 3)).block, (ad505.add ((x16_2).toNat * 3)).off + 1, none⟩ = some (.int .i64 ((rd_T39 t501 x16_2).f1)) ∧ w'.cell? ⟨(ad505.add ((x16_2).toNat * 3)).block, (ad505.add ((x16_2).toNat * 3)).off + 2, none⟩ = some (.int .i64 ((rd_T39 t501 x16_2).f2))) ∧ (Kd.R k39 39 w' w.heap.size (fun k_ => some k_ ≠ (.slice (some ad505) t501.length co23 : Value).ownBlock ∧ k_ ≠ gb497 ∧ k_ ≠ s_) u12 x12_2) ∧ (Kd.R k39 39 w' w.heap.size (fun k_ => some k_ ≠ (u12 : Value).ownBlock ∧ k_ ≠ gb497 ∧ k_ ≠ s_) (.slice (some ad505) t501.length co23) t501) ∧ (w'.heap[gb496]? = some (.cells #[.int .i64 a1_0, .int .i64 a1_1, .int .i64 a1_2, .int .i64 a1_3] 26 (0, 0))) ∧ (w'.heap[gb497]? = some (.cells #[.int .i64 a2_0, .int .i64 a2_1, .int .i64 a2_2] 39 (0, 0))) ∧ (w'.heap[s_]? = some (.cells #[.int .i64 0, .int .i64 0, .int .i64 0] 39 (0, 0))) ∧ (w.heap.size ≤ s_) ∧ (w.heap.size ≤ s_) ∧ (gb496 ≠ s_) ∧ (s_ ≠ gb496) ∧ (gb497 ≠ s_) ∧ (s_ ≠ gb497) ∧ (Below w.heap.size w w')) ?_ ?_
            rotate_left
            ·
             intro hCont
             refine two_ (i := 6) (j := 10) (Ni := some 48) (Nj := some 17) #[Y, Y, Y, Y, Y, Y, Y, Z, Z, Z, Z, Z, Z] #[Y, Y, Y, Y, Y, Y, Z, Z, Z, Z, Y, Z, Z] rfl rfl rfl rfl (two_of HT_.out (by kernel_rfl)) (by decide) (by decide) (fun K hK => ?_) (fun K hK => ?_)
             ·
              skip
              refine goes_ Try.func62 (by kernel_rfl) rfl #[.int .i64 a0, .agg #[.int .i64 a1_0, .int .i64 a1_1, .int .i64 a1_2, .int .i64 a1_3], .agg #[.int .i64 ((rd_T39 t501 x16_2).f0), .int .i64 ((rd_T39 t501 x16_2).f1), .int .i64 ((rd_T39 t501 x16_2).f2)]] (by rfl) rfl rfl hA ?_
              with_reducible refine (spec_l04Move.calls k2 a0 a1_0 a1_1 a1_2 a1_3 ((rd_T39 t501 x16_2).f0) ((rd_T39 t501 x16_2).f1) ((rd_T39 t501 x16_2).f2) t506 t507 t508 true _ A18.out).mono ?_
              rintro e w25 ⟨rfl, hb⟩
              have HS4_ := (hb.cell (World.block_lt_of_cell? _ _ (hHeld.2.2.2.2.1))).trans (hHeld.2.2.2.2.1)
              have HS5_ := (hb.cell (World.block_lt_of_cell? _ _ (hHeld.2.2.2.2.2.1))).trans (hHeld.2.2.2.2.2.1)
              have HS6_ := (hb.cell (World.block_lt_of_cell? _ _ (hHeld.2.2.2.2.2.2))).trans (hHeld.2.2.2.2.2.2)
              refine ⟨_, rfl, ?_⟩
              replace HO_12 := Aside0.mk (Kd.R_below (rA HO_12) hb)
              replace HO_14 := Aside0.mk (Kd.R_below (rA HO_14) hb)
              replace BK496 := kB BK496 hb
              replace BK497 := kB BK497 hb
              replace HB := lB hb
              (try clear hb)
              (try clear hb2)
              (try clear hk)
              (try clear hi)
              refine hK.out _ _ ⟨cA BK496 0, cA BK496 1, cA BK496 2, cA BK496 3, HS4_, HS5_, HS6_⟩ (fun hHeld => ?_)
              clear hK K
              refine norm_ (a' := ?_) ?_ ?_
              rotate_left
              ·
               show Act.put _ (some 48) _ = _
               simp only [pA]
               rfl
              refine pure_ (i := 7) (N := some 41) (v := ?_) (a' := ?_) #[Y, Y, Y, Y, Y, Y, Y, Y, Z, Z, Z, Z, Z] rfl rfl (any_of HT_.out (by kernel_rfl)) (fun _ _ _ h => h) (Or.inl ⟨by rfl, ?_⟩) ?_ ?_
              rotate_left
              ·
               intro w'
               go_simp
               with_reducible rfl
              rotate_left
              ·
               simp only [pA]
               rfl
              refine pure_ (i := 8) (N := some 49) (v := ?_) (a' := ?_) #[Y, Y, Y, Y, Y, Y, Y, Y, Y, Z, Z, Z, Z] rfl rfl (any_of HT_.out (by kernel_rfl)) (fun _ _ _ h => h) (Or.inl ⟨by rfl, ?_⟩) ?_ ?_
              rotate_left
              ·
               intro w'
               go_simp
               with_reducible rfl
              rotate_left
              ·
               simp only [pA]
               rfl
              refine pure_ (i := 9) (N := some 50) (v := ?_) (a' := ?_) #[Y, Y, Y, Y, Y, Y, Y, Y, Y, Y, Z, Z, Z] rfl rfl (any_of HT_.out (by kernel_rfl)) (fun _ _ _ h => h) (Or.inl ⟨by rfl, ?_⟩) ?_ ?_
              rotate_left
              ·
               intro w'
               go_simp
               with_reducible rfl
              rotate_left
              ·
               simp only [pA]
               rfl
              refine one_ (i := 10) (N := some 17) #[Y, Y, Y, Y, Y, Y, Y, Y, Y, Y, Y, Z, Z] rfl rfl (one_of HT_.out (by kernel_rfl)) (by decide) (fun K hK => ?_)
              refine box_step ?hg (N := 17) ?hd (cs := #[.int .i64 0, .int .i64 0, .int .i64 0]) (t := 39) ?hr ?_; (case hd => rfl); (case hg => rfl); (case hr => first | (go_simp; done) | (go_simp; rfl))
              intro gb510 hg w26 hbox hb
              have HS4_ := (hb.cell (World.block_lt_of_cell? _ _ (hHeld.2.2.2.2.1))).trans (hHeld.2.2.2.2.1)
              have HS5_ := (hb.cell (World.block_lt_of_cell? _ _ (hHeld.2.2.2.2.2.1))).trans (hHeld.2.2.2.2.2.1)
              have HS6_ := (hb.cell (World.block_lt_of_cell? _ _ (hHeld.2.2.2.2.2.2))).trans (hHeld.2.2.2.2.2.2)
              have BK510 := Aside0.mk (hbox)
              have GW510 := sA hg
              have GE510 := sA hg
              have NB496_510 := nA hg BK496
              have NB510_496 := nB hg BK496
              have NB497_510 := nA hg BK497
              have NB510_497 := nB hg BK497
              replace HO_12 := Aside0.mk (Kd.R_below (Kd.R_elderB (rA HO_12) gb510 (Nat.le_of_eq hg.symm)) hb)
              replace HO_14 := Aside0.mk (Kd.R_below (Kd.R_elderB (rA HO_14) gb510 (Nat.le_of_eq hg.symm)) hb)
              replace BK496 := kB BK496 hb
              replace BK497 := kB BK497 hb
              replace HB := lB hb
              clear hb hbox hg
              refine hK.out _ _ ⟨cA BK496 0, cA BK496 1, cA BK496 2, cA BK496 3, HS4_, HS5_, HS6_⟩ (fun hHeld => ?_)
              clear hK K
              refine norm_ (a' := ?_) ?_ ?_
              rotate_left
              ·
               show Act.put _ (some 17) _ = _
               simp only [pA]
               rfl
              exact norm_ (by simp only [putAll, Act.put, List.setIfInBounds_toArray, List.set_cons_zero, List.set_cons_succ]) (hCont (gb510) _ ⟨hHeld, (by (with_reducible repeat (first | apply Kd.R_alloc | apply Kd.R_drewN | apply Kd.R_drew)); exact Kd.R_mono HO_12.out (fun _ hk => ⟨hk.1.1, ⟨hk.1.2, hk.2⟩⟩)), (by (with_reducible repeat (first | apply Kd.R_alloc | apply Kd.R_drewN | apply Kd.R_drew)); exact Kd.R_mono HO_14.out (fun _ hk => ⟨hk.1.1, ⟨hk.1.2, hk.2⟩⟩)), (bkA BK496), (bkA BK497), (bkA BK510), GW510.out, GE510.out, NB496_510.out, NB510_496.out, NB497_510.out, NB510_497.out, blA⟩)
             ·
              skip
              refine box_step ?hg (N := 17) ?hd (cs := #[.int .i64 0, .int .i64 0, .int .i64 0]) (t := 39) ?hr ?_; (case hd => rfl); (case hg => rfl); (case hr => first | (go_simp; done) | (go_simp; rfl))
              intro gb510 hg w25 hbox hb
              have HS4_ := (hb.cell (World.block_lt_of_cell? _ _ (hHeld.2.2.2.2.1))).trans (hHeld.2.2.2.2.1)
              have HS5_ := (hb.cell (World.block_lt_of_cell? _ _ (hHeld.2.2.2.2.2.1))).trans (hHeld.2.2.2.2.2.1)
              have HS6_ := (hb.cell (World.block_lt_of_cell? _ _ (hHeld.2.2.2.2.2.2))).trans (hHeld.2.2.2.2.2.2)
              have BK510 := Aside0.mk (hbox)
              have GW510 := sA hg
              have GE510 := sA hg
              have NB496_510 := nA hg BK496
              have NB510_496 := nB hg BK496
              have NB497_510 := nA hg BK497
              have NB510_497 := nB hg BK497
              replace HO_12 := Aside0.mk (Kd.R_below (Kd.R_elderB (rA HO_12) gb510 (Nat.le_of_eq hg.symm)) hb)
              replace HO_14 := Aside0.mk (Kd.R_below (Kd.R_elderB (rA HO_14) gb510 (Nat.le_of_eq hg.symm)) hb)
              replace BK496 := kB BK496 hb
              replace BK497 := kB BK497 hb
              replace HB := lB hb
              clear hb hbox hg
              refine hK.out _ _ ⟨cA BK496 0, cA BK496 1, cA BK496 2, cA BK496 3, HS4_, HS5_, HS6_⟩ (fun hHeld => ?_)
              clear hK K
              refine norm_ (a' := ?_) ?_ ?_
              rotate_left
              ·
               show Act.put _ (some 17) _ = _
               simp only [pA]
               rfl
              refine one_ (i := 6) (N := some 48) #[Y, Y, Y, Y, Y, Y, Y, Z, Z, Z, Y, Z, Z] rfl rfl (one_of HT_.out (by kernel_rfl)) (by decide) (fun K hK => ?_)
              refine goes_ Try.func62 (by kernel_rfl) rfl #[.int .i64 a0, .agg #[.int .i64 a1_0, .int .i64 a1_1, .int .i64 a1_2, .int .i64 a1_3], .agg #[.int .i64 ((rd_T39 t501 x16_2).f0), .int .i64 ((rd_T39 t501 x16_2).f1), .int .i64 ((rd_T39 t501 x16_2).f2)]] (by rfl) rfl rfl hA ?_
              with_reducible refine (spec_l04Move.calls k2 a0 a1_0 a1_1 a1_2 a1_3 ((rd_T39 t501 x16_2).f0) ((rd_T39 t501 x16_2).f1) ((rd_T39 t501 x16_2).f2) t506 t507 t508 true _ A18.out).mono ?_
              rintro e w26 ⟨rfl, hb⟩
              have HS4_ := (hb.cell (World.block_lt_of_cell? _ _ (hHeld.2.2.2.2.1))).trans (hHeld.2.2.2.2.1)
              have HS5_ := (hb.cell (World.block_lt_of_cell? _ _ (hHeld.2.2.2.2.2.1))).trans (hHeld.2.2.2.2.2.1)
              have HS6_ := (hb.cell (World.block_lt_of_cell? _ _ (hHeld.2.2.2.2.2.2))).trans (hHeld.2.2.2.2.2.2)
              refine ⟨_, rfl, ?_⟩
              replace HO_12 := Aside0.mk (Kd.R_below (rA HO_12) hb)
              replace HO_14 := Aside0.mk (Kd.R_below (rA HO_14) hb)
              replace BK496 := kB BK496 hb
              replace BK497 := kB BK497 hb
              replace BK510 := kB BK510 hb
              replace HB := lB hb
              (try clear hb)
              (try clear hb2)
              (try clear hk)
              (try clear hi)
              refine hK.out _ _ ⟨cA BK496 0, cA BK496 1, cA BK496 2, cA BK496 3, HS4_, HS5_, HS6_⟩ (fun hHeld => ?_)
              clear hK K
              refine norm_ (a' := ?_) ?_ ?_
              rotate_left
              ·
               show Act.put _ (some 48) _ = _
               simp only [pA]
               rfl
              refine pure_ (i := 7) (N := some 41) (v := ?_) (a' := ?_) #[Y, Y, Y, Y, Y, Y, Y, Y, Z, Z, Y, Z, Z] rfl rfl (any_of HT_.out (by kernel_rfl)) (fun _ _ _ h => h) (Or.inl ⟨by rfl, ?_⟩) ?_ ?_
              rotate_left
              ·
               intro w'
               go_simp
               with_reducible rfl
              rotate_left
              ·
               simp only [pA]
               rfl
              refine pure_ (i := 8) (N := some 49) (v := ?_) (a' := ?_) #[Y, Y, Y, Y, Y, Y, Y, Y, Y, Z, Y, Z, Z] rfl rfl (any_of HT_.out (by kernel_rfl)) (fun _ _ _ h => h) (Or.inl ⟨by rfl, ?_⟩) ?_ ?_
              rotate_left
              ·
               intro w'
               go_simp
               with_reducible rfl
              rotate_left
              ·
               simp only [pA]
               rfl
              refine pure_ (i := 9) (N := some 50) (v := ?_) (a' := ?_) #[Y, Y, Y, Y, Y, Y, Y, Y, Y, Y, Y, Z, Z] rfl rfl (any_of HT_.out (by kernel_rfl)) (fun _ _ _ h => h) (Or.inl ⟨by rfl, ?_⟩) ?_ ?_
              rotate_left
              ·
               intro w'
               go_simp
               with_reducible rfl
              rotate_left
              ·
               simp only [pA]
               rfl
              exact norm_ (by simp only [putAll, Act.put, List.setIfInBounds_toArray, List.set_cons_zero, List.set_cons_succ]) (hCont (gb510) _ ⟨hHeld, (by (with_reducible repeat (first | apply Kd.R_alloc | apply Kd.R_drewN | apply Kd.R_drew)); exact Kd.R_mono HO_12.out (fun _ hk => ⟨hk.1.1, ⟨hk.1.2, hk.2⟩⟩)), (by (with_reducible repeat (first | apply Kd.R_alloc | apply Kd.R_drewN | apply Kd.R_drew)); exact Kd.R_mono HO_14.out (fun _ hk => ⟨hk.1.1, ⟨hk.1.2, hk.2⟩⟩)), (bkA BK496), (bkA BK497), (bkA BK510), GW510.out, GE510.out, NB496_510.out, NB510_496.out, NB497_510.out, NB510_497.out, blA⟩)
            rintro gb510 w27 ⟨hS_, h0_, h1_, h2_, h3_, h4_, h5_, h6_, h7_, h8_, h9_, h10_, h11_⟩
            have BK510 := Aside0.mk h4_
            have GW510 := Aside0.mk h5_
            have GE510 := Aside0.mk h6_
            have NB496_510 := Aside0.mk h7_
            have NB510_496 := Aside0.mk h8_
            have NB497_510 := Aside0.mk h9_
            have NB510_497 := Aside0.mk h10_
            replace HO_12 := Aside0.mk h0_
            replace HO_14 := Aside0.mk h1_
            replace BK496 := Aside0.mk h2_
            replace BK497 := Aside0.mk h3_
            replace HB := Aside0.mk h11_
            clear h0_ h1_ h2_ h3_ h4_ h5_ h6_ h7_ h8_ h9_ h10_ h11_
            have hHeld : w27.cell? ⟨gb496, 0, none⟩ = some (.int .i64 a1_0) ∧ w27.cell? ⟨gb496, 1, none⟩ = some (.int .i64 a1_1) ∧ w27.cell? ⟨gb496, 2, none⟩ = some (.int .i64 a1_2) ∧ w27.cell? ⟨gb496, 3, none⟩ = some (.int .i64 a1_3) ∧ w27.cell? (ad505.add ((x16_2).toNat * 3)) = some (.int .i64 ((rd_T39 t501 x16_2).f0)) ∧ w27.cell? ⟨(ad505.add ((x16_2).toNat * 3)).block, (ad505.add ((x16_2).toNat * 3)).off + 1, none⟩ = some (.int .i64 ((rd_T39 t501 x16_2).f1)) ∧ w27.cell? ⟨(ad505.add ((x16_2).toNat * 3)).block, (ad505.add ((x16_2).toNat * 3)).off + 2, none⟩ = some (.int .i64 ((rd_T39 t501 x16_2).f2)) := hS_
            refine norm_ (a' := ?_) ?_ ?_
            rotate_left
            ·
             simp only [putAll, Act.put, List.setIfInBounds_toArray, List.set_cons_zero, List.set_cons_succ]
             rfl
            refine one_ (i := 11) (N := none) #[Y, Y, Y, Y, Y, Y, Y, Y, Y, Y, Y, Y, Z] rfl rfl (one_of HT_.out (by kernel_rfl)) (by decide) (fun K hK => ?_)
            have hs28 : w27.cell? ⟨gb510, 0, none⟩ = some (.int .i64 0) := cA BK510 0
            have hfs28 := blk_frozen BK510.out 0
            have hns28_0 := NB496_510.out
            have hns28_1 := NB497_510.out
            have hms28_0 := NB510_496.out
            have hms28_1 := NB510_497.out
            have hs29 : w27.cell? ⟨gb510, 1, none⟩ = some (.int .i64 0) := cA BK510 1
            have hfs29 := blk_frozen BK510.out 1
            have hns29_0 := NB496_510.out
            have hns29_1 := NB497_510.out
            have hms29_0 := NB510_496.out
            have hms29_1 := NB510_497.out
            have hs30 : w27.cell? ⟨gb510, 2, none⟩ = some (.int .i64 0) := cA BK510 2
            have hfs30 := blk_frozen BK510.out 2
            have hns30_0 := NB496_510.out
            have hns30_1 := NB497_510.out
            have hms30_0 := NB510_496.out
            have hms30_1 := NB510_497.out
            refine skip_ (w1 := ?_) (by rfl) rfl ?_ ?_
            rotate_left
            ·
             go_simp
             rfl
            refine hK.out _ _ ⟨((cell_far (p := ⟨gb510, _, none⟩) NB496_510.out _).trans (((cell_far (p := ⟨gb510, _, none⟩) NB496_510.out _).trans (((cell_far (p := ⟨gb510, _, none⟩) NB496_510.out _).trans (hHeld.1)))))), ((cell_far (p := ⟨gb510, _, none⟩) NB496_510.out _).trans (((cell_far (p := ⟨gb510, _, none⟩) NB496_510.out _).trans (((cell_far (p := ⟨gb510, _, none⟩) NB496_510.out _).trans (hHeld.2.1)))))), ((cell_far (p := ⟨gb510, _, none⟩) NB496_510.out _).trans (((cell_far (p := ⟨gb510, _, none⟩) NB496_510.out _).trans (((cell_far (p := ⟨gb510, _, none⟩) NB496_510.out _).trans (hHeld.2.2.1)))))), ((cell_far (p := ⟨gb510, _, none⟩) NB496_510.out _).trans (((cell_far (p := ⟨gb510, _, none⟩) NB496_510.out _).trans (((cell_far (p := ⟨gb510, _, none⟩) NB496_510.out _).trans (hHeld.2.2.2.1)))))), ((cell_far (p := ⟨gb510, _, none⟩) (fB (Kd.own_blk (Kd.R_away HO_14.out (fun _ hk => hk.2.2)))) _).trans (((cell_far (p := ⟨gb510, _, none⟩) (fB (Kd.own_blk (Kd.R_away HO_14.out (fun _ hk => hk.2.2)))) _).trans (((cell_far (p := ⟨gb510, _, none⟩) (fB (Kd.own_blk (Kd.R_away HO_14.out (fun _ hk => hk.2.2)))) _).trans (hHeld.2.2.2.2.1)))))), ((cell_far (p := ⟨gb510, _, none⟩) (fB (Kd.own_blk (Kd.R_away HO_14.out (fun _ hk => hk.2.2)))) _).trans (((cell_far (p := ⟨gb510, _, none⟩) (fB (Kd.own_blk (Kd.R_away HO_14.out (fun _ hk => hk.2.2)))) _).trans (((cell_far (p := ⟨gb510, _, none⟩) (fB (Kd.own_blk (Kd.R_away HO_14.out (fun _ hk => hk.2.2)))) _).trans (hHeld.2.2.2.2.2.1)))))), ((cell_far (p := ⟨gb510, _, none⟩) (fB (Kd.own_blk (Kd.R_away HO_14.out (fun _ hk => hk.2.2)))) _).trans (((cell_far (p := ⟨gb510, _, none⟩) (fB (Kd.own_blk (Kd.R_away HO_14.out (fun _ hk => hk.2.2)))) _).trans (((cell_far (p := ⟨gb510, _, none⟩) (fB (Kd.own_blk (Kd.R_away HO_14.out (fun _ hk => hk.2.2)))) _).trans (hHeld.2.2.2.2.2.2))))))⟩ (fun hHeld => ?_)
            clear hK K
            refine pure_ (i := 12) (N := some 18) (v := ?_) (a' := ?_) #[Y, Y, Y, Y, Y, Y, Y, Y, Y, Y, Y, Y, Y] rfl rfl (any_of HT_.out (by kernel_rfl)) (fun _ _ _ h => h) (Or.inl ⟨by rfl, ?_⟩) ?_ ?_
            rotate_left
            ·
             intro w'
             go_simp
             with_reducible rfl
            rotate_left
            ·
             simp only [pA]
             rfl
            refine done_ (done_of HT_.out (by kernel_rfl)) ?_
            try go_wp2
            have n0_ : Aside0 (Kd.R k39 39 (((w27.setCell ⟨gb510, 0, none⟩ (.int .i64 t506)).setCell ⟨gb510, 1, none⟩ (.int .i64 t507)).setCell ⟨gb510, 2, none⟩ (.int .i64 t508)) w.heap.size (fun k_ => some k_ ≠ (.slice (some ad505) t501.length co23 : Value).ownBlock ∧ k_ ≠ gb497 ∧ k_ ≠ gb510) u12 x12_2) := ⟨by (with_reducible repeat (first | apply Kd.R_alloc | apply Kd.R_drewN | apply Kd.R_drew)); exact Kd.R_mono (Kd.R_far (p := ⟨gb510, 2, none⟩) (Kd.R_far (p := ⟨gb510, 1, none⟩) (Kd.R_far (p := ⟨gb510, 0, none⟩) (Kd.R_mono HO_12.out (fun k_ hk => (⟨hk, hk.2.2⟩ : _ ∧ k_ ≠ gb510))) (fun _ hk => hk.2) (.int .i64 t506)) (fun _ hk => hk.2) (.int .i64 t507)) (fun _ hk => hk.2) (.int .i64 t508)) (fun _ hk => ⟨hk.1.1, ⟨hk.1.2.1, hk.1.2.2⟩⟩)⟩
            have n1_ : Aside0 (Kd.R k39 39 (((w27.setCell ⟨gb510, 0, none⟩ (.int .i64 t506)).setCell ⟨gb510, 1, none⟩ (.int .i64 t507)).setCell ⟨gb510, 2, none⟩ (.int .i64 t508)) w.heap.size (fun k_ => some k_ ≠ (u12 : Value).ownBlock ∧ k_ ≠ gb497 ∧ k_ ≠ gb510) (.slice (some ad505) t501.length co23) t501) := ⟨by (with_reducible repeat (first | apply Kd.R_alloc | apply Kd.R_drewN | apply Kd.R_drew)); exact Kd.R_mono (Kd.R_far (p := ⟨gb510, 2, none⟩) (Kd.R_far (p := ⟨gb510, 1, none⟩) (Kd.R_far (p := ⟨gb510, 0, none⟩) (Kd.R_mono HO_14.out (fun k_ hk => (⟨hk, hk.2.2⟩ : _ ∧ k_ ≠ gb510))) (fun _ hk => hk.2) (.int .i64 t506)) (fun _ hk => hk.2) (.int .i64 t507)) (fun _ hk => hk.2) (.int .i64 t508)) (fun _ hk => ⟨hk.1.1, ⟨hk.1.2.1, hk.1.2.2⟩⟩)⟩
            have n2_ : Aside0 ((((w27.setCell ⟨gb510, 0, none⟩ (.int .i64 t506)).setCell ⟨gb510, 1, none⟩ (.int .i64 t507)).setCell ⟨gb510, 2, none⟩ (.int .i64 t508)).heap[gb496]? = some (.cells #[.int .i64 a1_0, .int .i64 a1_1, .int .i64 a1_2, .int .i64 a1_3] 26 (0, 0))) := ⟨bkF BK496⟩
            have n3_ : Aside0 ((((w27.setCell ⟨gb510, 0, none⟩ (.int .i64 t506)).setCell ⟨gb510, 1, none⟩ (.int .i64 t507)).setCell ⟨gb510, 2, none⟩ (.int .i64 t508)).heap[gb497]? = some (.cells #[.int .i64 a2_0, .int .i64 a2_1, .int .i64 a2_2] 39 (0, 0))) := ⟨bkF BK497⟩
            have n4_ : Aside0 ((((w27.setCell ⟨gb510, 0, none⟩ (.int .i64 t506)).setCell ⟨gb510, 1, none⟩ (.int .i64 t507)).setCell ⟨gb510, 2, none⟩ (.int .i64 t508)).heap[gb510]? = some (.cells #[.int .i64 t506, .int .i64 t507, .int .i64 t508] 39 (0, 0))) := ⟨by (with_reducible repeat (first | refine blk_drewN ?_ _ | refine blk_drew ?_ | refine blk_alloc ?_ _)); refine blk_put (cs := #[.int .i64 t506, .int .i64 t507, .int .i64 0]) ?_ 2 _ rfl; (with_reducible repeat (first | refine blk_drewN ?_ _ | refine blk_drew ?_ | refine blk_alloc ?_ _)); refine blk_put (cs := #[.int .i64 t506, .int .i64 0, .int .i64 0]) ?_ 1 _ rfl; (with_reducible repeat (first | refine blk_drewN ?_ _ | refine blk_drew ?_ | refine blk_alloc ?_ _)); refine blk_put (cs := #[.int .i64 0, .int .i64 0, .int .i64 0]) ?_ 0 _ rfl; (with_reducible repeat (first | refine blk_drewN ?_ _ | refine blk_drew ?_ | refine blk_alloc ?_ _)); exact BK510.out⟩
            have n5_ : Aside0 (Below w.heap.size w (((w27.setCell ⟨gb510, 0, none⟩ (.int .i64 t506)).setCell ⟨gb510, 1, none⟩ (.int .i64 t507)).setCell ⟨gb510, 2, none⟩ (.int .i64 t508))) := ⟨blA⟩
            (try clear HO_12)
            (try clear HO_14)
            (try clear BK496)
            (try clear BK497)
            (try clear BK510)
            (try clear HB)
            generalize (((w27.setCell ⟨gb510, 0, none⟩ (.int .i64 t506)).setCell ⟨gb510, 1, none⟩ (.int .i64 t507)).setCell ⟨gb510, 2, none⟩ (.int .i64 t508)) = w31 at n0_ n1_ n2_ n3_ n4_ n5_ ⊢
            have HO_12 := n0_
            have HO_14 := n1_
            have BK496 := n2_
            have BK497 := n3_
            have BK510 := n4_
            have HB := n5_
            clear n0_ n1_ n2_ n3_ n4_ n5_
            have n0_ := Aside0.mk (Kd.R_drew HO_12.out)
            have n1_ := Aside0.mk (Kd.R_drew HO_14.out)
            have n2_ := Aside0.mk (blk_drew BK496.out)
            have n3_ := Aside0.mk (blk_drew BK497.out)
            have n4_ := Aside0.mk (blk_drew BK510.out)
            have n5_ := Aside0.mk (below_drew1 HB.out)
            clear HO_12
            clear HO_14
            clear BK496
            clear BK497
            clear BK510
            clear HB
            have HO_12 := n0_
            have HO_14 := n1_
            have BK496 := n2_
            have BK497 := n3_
            have BK510 := n4_
            have HB := n5_
            clear n0_ n1_ n2_ n3_ n4_ n5_
            have p511 : 0 ≤ (x16_2 : Int) := dA
            have q511 : x16_2 < (t501.length : Int) := dA
            obtain ⟨ad511, e511, hx511_0, hx511_1, hx511_2⟩ := at_T39 (Kd.R_reads' HO_14.out).2.2 x16_2 p511 q511
            obtain rfl : ad505 = ad511 := (by injection e511)
            replace p511 := eq_true p511
            replace q511 := eq_true q511
            refine start_ (n := 9) (S := fun w' => w'.cell? ⟨gb510, 0, none⟩ = some (.int .i64 t506) ∧ w'.cell? ⟨gb510, 1, none⟩ = some (.int .i64 t507) ∧ w'.cell? ⟨gb510, 2, none⟩ = some (.int .i64 t508) ∧ w'.cell? (ad505.add ((x16_2).toNat * 3)) = some (.int .i64 ((rd_T39 t501 x16_2).f0)) ∧ w'.cell? ⟨(ad505.add ((x16_2).toNat * 3)).block, (ad505.add ((x16_2).toNat * 3)).off + 1, none⟩ = some (.int .i64 ((rd_T39 t501 x16_2).f1)) ∧ w'.cell? ⟨(ad505.add ((x16_2).toNat * 3)).block, (ad505.add ((x16_2).toNat * 3)).off + 2, none⟩ = some (.int .i64 ((rd_T39 t501 x16_2).f2))) (ds := []) #[Z, Z, Z, Z, Z, Z, Z, Z, Z] (by kernel_rfl) rfl rfl ⟨cA BK510 0, cA BK510 1, cA BK510 2, hx511_0, hx511_1, hx511_2⟩ (fun hHeld => ?_); refine with_tabW spec_l04Near.tab14 spec_l04Near.bits14 (fun HT_ HW_ => ?_)
            generalize w31.drew = w32 at HO_12 HO_14 BK496 BK497 BK510 HB hx511_0 hx511_1 hx511_2 hHeld ⊢
            refine pure_ (i := 0) (N := some 53) (v := ?_) (a' := ?_) #[Y, Z, Z, Z, Z, Z, Z, Z, Z] rfl rfl (any_of HT_.out (by kernel_rfl)) (fun _ _ _ h => h) (Or.inl ⟨by rfl, ?_⟩) ?_ ?_
            rotate_left
            ·
             intro w'
             go_simp
             with_reducible rfl
            rotate_left
            ·
             simp only [pA]
             rfl
            refine pure_ (i := 1) (N := some 54) (v := ?_) (a' := ?_) #[Y, Y, Z, Z, Z, Z, Z, Z, Z] rfl rfl (any_of HT_.out (by kernel_rfl)) (fun _ _ _ h => h) (Or.inl ⟨by rfl, ?_⟩) ?_ ?_
            rotate_left
            ·
             intro w'
             go_simp
             with_reducible rfl
            rotate_left
            ·
             simp only [pA]
             rfl
            refine pure_ (i := 2) (N := some 55) (v := ?_) (a' := ?_) #[Y, Y, Y, Z, Z, Z, Z, Z, Z] rfl rfl (any_of HT_.out (by kernel_rfl)) (fun _ _ _ h => h) (Or.inl ⟨by rfl, ?_⟩) ?_ ?_
            rotate_left
            ·
             intro w'
             go_simp
             with_reducible rfl
            rotate_left
            ·
             simp only [pA]
             rfl
            refine pure_ (i := 3) (N := some 56) (v := ?_) (a' := ?_) #[Y, Y, Y, Y, Z, Z, Z, Z, Z] rfl rfl (any_of HT_.out (by kernel_rfl)) (fun _ _ _ h => h) (Or.inl ⟨by rfl, ?_⟩) ?_ ?_
            rotate_left
            ·
             intro w'
             go_simp
             with_reducible rfl
            rotate_left
            ·
             simp only [pA]
             rfl
            refine pure_ (i := 7) (N := some 60) (v := ?_) (a' := ?_) #[Y, Y, Y, Y, Z, Z, Z, Y, Z] rfl rfl (any_of HT_.out (by kernel_rfl)) (fun _ _ _ h => h) (Or.inl ⟨by rfl, ?_⟩) ?_ ?_
            rotate_left
            ·
             intro w'
             go_simp
             with_reducible rfl
            rotate_left
            ·
             simp only [pA]
             rfl
            refine take_ (i := 4) (N := some 57) (v := ?_) (a' := ?_) #[Y, Y, Y, Y, Y, Z, Z, Y, Z] rfl rfl (take_ofW HT_.out HW_.out (by kernel_rfl)) (fun _ _ _ h => h) (Or.inl ⟨by rfl, ?_⟩) hHeld ?_ ?_
            rotate_left
            ·
             rintro w' ⟨s0, s1, s2, s3, s4, s5⟩
             go_simp
             with_reducible rfl
            rotate_left
            ·
             simp only [pA]
             rfl
            refine take_ (i := 5) (N := some 58) (v := ?_) (a' := ?_) #[Y, Y, Y, Y, Y, Y, Z, Y, Z] rfl rfl (take_ofW HT_.out HW_.out (by kernel_rfl)) (fun _ _ _ h => h) (Or.inl ⟨by rfl, ?_⟩) hHeld ?_ ?_
            rotate_left
            ·
             rintro w' ⟨s0, s1, s2, s3, s4, s5⟩
             go_simp
             with_reducible rfl
            rotate_left
            ·
             simp only [pA]
             rfl
            refine one_ (i := 6) (N := some 59) #[Y, Y, Y, Y, Y, Y, Y, Y, Z] rfl rfl (one_of HT_.out (by kernel_rfl)) (by decide) (fun K hK => ?_)
            refine goes_ Try.func102 (by kernel_rfl) rfl #[.int .i64 a0, .agg #[.int .i64 ((rd_T39 t501 x16_2).f0), .int .i64 ((rd_T39 t501 x16_2).f1), .int .i64 ((rd_T39 t501 x16_2).f2)], .agg #[.int .i64 t506, .int .i64 t507, .int .i64 t508]] (by rfl) rfl rfl hA ?_
            with_reducible refine (spec_l02Distance.calls k2 a0 ((rd_T39 t501 x16_2).f0) ((rd_T39 t501 x16_2).f1) ((rd_T39 t501 x16_2).f2) t506 t507 t508 t512 _ A20.out).mono ?_
            rintro e w33 ⟨rfl, hb⟩
            have HS3_ := (hb.cell (World.block_lt_of_cell? _ _ (hHeld.2.2.2.1))).trans (hHeld.2.2.2.1)
            have HS4_ := (hb.cell (World.block_lt_of_cell? _ _ (hHeld.2.2.2.2.1))).trans (hHeld.2.2.2.2.1)
            have HS5_ := (hb.cell (World.block_lt_of_cell? _ _ (hHeld.2.2.2.2.2))).trans (hHeld.2.2.2.2.2)
            refine ⟨_, rfl, ?_⟩
            replace HO_12 := Aside0.mk (Kd.R_below (rA HO_12) hb)
            replace HO_14 := Aside0.mk (Kd.R_below (rA HO_14) hb)
            replace BK496 := kB BK496 hb
            replace BK497 := kB BK497 hb
            replace BK510 := kB BK510 hb
            replace HB := lB hb
            (try clear hb)
            (try clear hb2)
            (try clear hk)
            (try clear hi)
            refine hK.out _ _ ⟨cA BK510 0, cA BK510 1, cA BK510 2, HS3_, HS4_, HS5_⟩ (fun hHeld => ?_)
            clear hK K
            refine norm_ (a' := ?_) ?_ ?_
            rotate_left
            ·
             show Act.put _ (some 59) _ = _
             simp only [pA]
             rfl
            refine pure_ (i := 8) (N := some 61) (v := ?_) (a' := ?_) #[Y, Y, Y, Y, Y, Y, Y, Y, Y] rfl rfl (any_of HT_.out (by kernel_rfl)) (fun _ _ _ h => h) (Or.inl ⟨by rfl, ?_⟩) ?_ ?_
            rotate_left
            ·
             intro w'
             go_simp
             with_reducible rfl
            rotate_left
            ·
             simp only [pA]
             rfl
            refine done_ (done_of HT_.out (by kernel_rfl)) ?_
            have p513 : 0 ≤ (x16_2 : Int) := dA
            have q513 : x16_2 < (t501.length : Int) := dA
            obtain ⟨ad513, e513, hx513_0, hx513_1, hx513_2⟩ := at_T39 (Kd.R_reads' HO_14.out).2.2 x16_2 p513 q513
            obtain rfl : ad505 = ad513 := (by injection e513)
            replace p513 := eq_true p513
            replace q513 := eq_true q513
            try go_wp2_with (first | ((with_reducible refine gate_builtin (b := .append) (xs := #[.tmp 62, .tmp 67]) rfl ?_); at_builtin; refine Kd.R_append k39 (w0 := w) w.heap.size rfl (.tmp 62) (.tmp 67) 36 39 (.agg #[(.int .i64 0), (.int .i64 0), (.int .i64 0)]) 24 rfl Try.underlying36 info39 rfl (by decide) (by omega) u12 x12_2 (⟨(rd_T39 t501 x16_2).f0, (rd_T39 t501 x16_2).f1, (rd_T39 t501 x16_2).f2⟩ : S39) [.int .i64 ((rd_T39 t501 x16_2).f0), .int .i64 ((rd_T39 t501 x16_2).f1), .int .i64 ((rd_T39 t501 x16_2).f2)] (fun k_ => some k_ ≠ (.slice (some ad505) t501.length co23 : Value).ownBlock ∧ k_ ≠ gb497 ∧ k_ ≠ gb510) (fun _ => False) rfl rfl ?aP (fun _ hk => hk.elim) ?aF ?aO ?aB ?aS ?aL ?_; (case aP => exact k39_mkM _ _ _ (⟨(rd_T39 t501 x16_2).f0, (rd_T39 t501 x16_2).f1, (rd_T39 t501 x16_2).f2⟩ : S39)); (case aB => exact blA); (case aF => exact (fun k_ hk => ⟨Kd.fresh' (Kd.R_lt (rA HO_14)) k_ hk, Kd.freshB (bkA BK497) k_ hk, Kd.freshB (bkA BK510) k_ hk⟩)); (case aO => exact (rA HO_12)); (case aS => exact (below_size blA)); (case aL => have := LMc22.out; omega); intro v515 w34 ho hb hg hat; rw [← Ny514.out] at ho; have n0_ := Aside0.mk (Kd.R_after (ok := (fun k_ => k_ ≠ gb497 ∧ k_ ≠ gb510)) (by (with_reducible repeat (first | apply Kd.R_alloc | apply Kd.R_drewN | apply Kd.R_drew)); exact Kd.R_mono HO_14.out (fun _ hk => ⟨⟨hk.2.1, hk.2.2⟩, hk.1⟩)) hg hat); have n1_ := Aside0.mk (blk_grown (bkA BK496) hg (Kd.R_ne HO_12.out BK496.out (by decide))); have n2_ := Aside0.mk (blk_grown (bkA BK497) hg (Kd.R_away HO_12.out (fun _ hk => hk.2.1))); have n3_ := Aside0.mk (blk_grown (bkA BK510) hg (Kd.R_away HO_12.out (fun _ hk => hk.2.2))); have n4_ := Aside0.mk (hb); have n5_ := Aside0.mk (ho); clear HO_14; clear BK496; clear BK497; clear BK510; clear HB; clear HO_12; have HO_14 := n0_; have BK496 := n1_; have BK497 := n2_; have BK510 := n3_; have HB := n4_; have HO516 := n5_; clear n0_ n1_ n2_ n3_ n4_ n5_; clear ho hb hg hat))
            go_roundg k2
            case measure => have := HK1.out; have := HK2.out; omega
            case rel => exact ⟨(y514), (wrap64 (x16_2 + 1)), hB, H', ⟨by have := HK1.out; have := HK2.out; omega⟩, ⟨by (with_reducible repeat (first | apply Kd.R_alloc | apply Kd.R_drewN | apply Kd.R_drew)); exact Kd.R_mono HO516.out (fun _ hk => ⟨hk.1, hk.2.1⟩)⟩, ⟨by (with_reducible repeat (first | apply Kd.R_alloc | apply Kd.R_drewN | apply Kd.R_drew)); exact Kd.R_mono HO_14.out (fun _ hk => ⟨hk.2, hk.1.1⟩)⟩, ⟨bkA BK496⟩, ⟨bkA BK497⟩, ⟨blA⟩⟩
           ·
            rw [if_neg c22] at H
            exact absurd H (by simp)
          ·
           rw [if_neg c21] at H
           have c21b0 : (t512 == a4) = false := beq_eq_false_iff_ne.mpr c21
           have c21b1 : (t512 != a4) = true := bne_iff_ne.mpr c21
           have H' := Aside0.mk H
           clear H
           obtain ⟨Ao35, co35, eo35⟩ := Kd.R_slice HO_14.out
           subst eo35
           try go_wp2
           have n0_ := Aside0.mk (Kd.R_drew HO_12.out)
           have n1_ := Aside0.mk (Kd.R_drew HO_14.out)
           have n2_ := Aside0.mk (blk_drew BK496.out)
           have n3_ := Aside0.mk (blk_drew BK497.out)
           have n4_ := Aside0.mk (below_drew1 HB.out)
           clear HO_12
           clear HO_14
           clear BK496
           clear BK497
           clear HB
           have HO_12 := n0_
           have HO_14 := n1_
           have BK496 := n2_
           have BK497 := n3_
           have HB := n4_
           clear n0_ n1_ n2_ n3_ n4_
           have p505 : 0 ≤ (x16_2 : Int) := dA
           have q505 : x16_2 < (t501.length : Int) := dA
           obtain ⟨ad505, e505, hx505_0, hx505_1, hx505_2⟩ := at_T39 (Kd.R_reads' HO_14.out).2.2 x16_2 p505 q505
           cases e505
           replace p505 := eq_true p505
           replace q505 := eq_true q505
           refine start_ (n := 13) (S := fun w' => w'.cell? ⟨gb496, 0, none⟩ = some (.int .i64 a1_0) ∧ w'.cell? ⟨gb496, 1, none⟩ = some (.int .i64 a1_1) ∧ w'.cell? ⟨gb496, 2, none⟩ = some (.int .i64 a1_2) ∧ w'.cell? ⟨gb496, 3, none⟩ = some (.int .i64 a1_3) ∧ w'.cell? (ad505.add ((x16_2).toNat * 3)) = some (.int .i64 ((rd_T39 t501 x16_2).f0)) ∧ w'.cell? ⟨(ad505.add ((x16_2).toNat * 3)).block, (ad505.add ((x16_2).toNat * 3)).off + 1, none⟩ = some (.int .i64 ((rd_T39 t501 x16_2).f1)) ∧ w'.cell? ⟨(ad505.add ((x16_2).toNat * 3)).block, (ad505.add ((x16_2).toNat * 3)).off + 2, none⟩ = some (.int .i64 ((rd_T39 t501 x16_2).f2))) (ds := []) #[Z, Z, Z, Z, Z, Z, Z, Z, Z, Z, Z, Z, Z] (by kernel_rfl) rfl rfl ⟨cA BK496 0, cA BK496 1, cA BK496 2, cA BK496 3, hx505_0, hx505_1, hx505_2⟩ (fun hHeld => ?_); refine with_tabW spec_l04Near.tab11 spec_l04Near.bits11 (fun HT_ HW_ => ?_)
           generalize wr.drew = w36 at HO_12 HO_14 BK496 BK497 HB hx505_0 hx505_1 hx505_2 hHeld ⊢
           refine pure_ (i := 0) (N := some 42) (v := ?_) (a' := ?_) #[Y, Z, Z, Z, Z, Z, Z, Z, Z, Z, Z, Z, Z] rfl rfl (any_of HT_.out (by kernel_rfl)) (fun _ _ _ h => h) (Or.inl ⟨by rfl, ?_⟩) ?_ ?_
           rotate_left
           ·
            intro w'
            go_simp
            with_reducible rfl
           rotate_left
           ·
            simp only [pA]
            rfl
           refine pure_ (i := 2) (N := some 44) (v := ?_) (a' := ?_) #[Y, Z, Y, Z, Z, Z, Z, Z, Z, Z, Z, Z, Z] rfl rfl (any_of HT_.out (by kernel_rfl)) (fun _ _ _ h => h) (Or.inl ⟨by rfl, ?_⟩) ?_ ?_
           rotate_left
           ·
            intro w'
            go_simp
            with_reducible rfl
           rotate_left
           ·
            simp only [pA]
            rfl
           refine pure_ (i := 3) (N := some 45) (v := ?_) (a' := ?_) #[Y, Z, Y, Y, Z, Z, Z, Z, Z, Z, Z, Z, Z] rfl rfl (any_of HT_.out (by kernel_rfl)) (fun _ _ _ h => h) (Or.inl ⟨by rfl, ?_⟩) ?_ ?_
           rotate_left
           ·
            intro w'
            go_simp
            with_reducible rfl
           rotate_left
           ·
            simp only [pA]
            rfl
           refine pure_ (i := 4) (N := some 46) (v := ?_) (a' := ?_) #[Y, Z, Y, Y, Y, Z, Z, Z, Z, Z, Z, Z, Z] rfl rfl (any_of HT_.out (by kernel_rfl)) (fun _ _ _ h => h) (Or.inl ⟨by rfl, ?_⟩) ?_ ?_
           rotate_left
           ·
            intro w'
            go_simp
            with_reducible rfl
           rotate_left
           ·
            simp only [pA]
            rfl
           refine take_ (i := 1) (N := some 43) (v := ?_) (a' := ?_) #[Y, Y, Y, Y, Y, Z, Z, Z, Z, Z, Z, Z, Z] rfl rfl (take_ofW HT_.out HW_.out (by kernel_rfl)) (fun _ _ _ h => h) (Or.inl ⟨by rfl, ?_⟩) hHeld ?_ ?_
           rotate_left
           ·
            rintro w' ⟨s0, s1, s2, s3, s4, s5, s6⟩
            go_simp
            with_reducible rfl
           rotate_left
           ·
            simp only [pA]
            rfl
           refine take_ (i := 5) (N := some 47) (v := ?_) (a' := ?_) #[Y, Y, Y, Y, Y, Y, Z, Z, Z, Z, Z, Z, Z] rfl rfl (take_ofW HT_.out HW_.out (by kernel_rfl)) (fun _ _ _ h => h) (Or.inl ⟨by rfl, ?_⟩) hHeld ?_ ?_
           rotate_left
           ·
            rintro w' ⟨s0, s1, s2, s3, s4, s5, s6⟩
            go_simp
            with_reducible rfl
           rotate_left
           ·
            simp only [pA]
            rfl
           refine join_ (σ := Nat) 2 #[Y, Y, Y, Y, Y, Y, Y, Y, Y, Y, Y, Z, Z] (fun s_ => [(48, .tuple #[.agg #[.int .i64 t506, .int .i64 t507, .int .i64 t508], .bool true]), (17, .pointer (some ⟨s_, 0, none⟩)), (41, .tuple #[.agg #[.int .i64 t506, .int .i64 t507, .int .i64 t508], .bool true]), (49, .agg #[.int .i64 t506, .int .i64 t507, .int .i64 t508]), (50, .bool true)]) (fun s_ w' => (w'.cell? ⟨gb496, 0, none⟩ = some (.int .i64 a1_0) ∧ w'.cell? ⟨gb496, 1, none⟩ = some (.int .i64 a1_1) ∧ w'.cell? ⟨gb496, 2, none⟩ = some (.int .i64 a1_2) ∧ w'.cell? ⟨gb496, 3, none⟩ = some (.int .i64 a1_3) ∧ w'.cell? (ad505.add ((x16_2).toNat * 3)) = some (.int .i64 ((rd_T39 t501 x16_2).f0)) ∧ w'.cell? ⟨(ad505.add ((x16_2).toNat * 3)).block, (ad505.add ((x16_2).toNat * 3)).off + 1, none⟩ = some (.int .i64 ((rd_T39 t501 x16_2).f1)) ∧ w'.cell? ⟨(ad505.add ((x16_2).toNat * 3)).block, (ad505.add ((x16_2).toNat * 3)).off + 2, none⟩ = some (.int .i64 ((rd_T39 t501 x16_2).f2))) ∧ (Kd.R k39 39 w' w.heap.size (fun k_ => some k_ ≠ (.slice (some ad505) t501.length co35 : Value).ownBlock ∧ k_ ≠ gb497 ∧ k_ ≠ s_) u12 x12_2) ∧ (Kd.R k39 39 w' w.heap.size (fun k_ => some k_ ≠ (u12 : Value).ownBlock ∧ k_ ≠ gb497 ∧ k_ ≠ s_) (.slice (some ad505) t501.length co35) t501) ∧ (w'.heap[gb496]? = some (.cells #[.int .i64 a1_0, .int .i64 a1_1, .int .i64 a1_2, .int .i64 a1_3] 26 (0, 0))) ∧ (w'.heap[gb497]? = some (.cells #[.int .i64 a2_0, .int .i64 a2_1, .int .i64 a2_2] 39 (0, 0))) ∧ (w'.heap[s_]? = some (.cells #[.int .i64 0, .int .i64 0, .int .i64 0] 39 (0, 0))) ∧ (w.heap.size ≤ s_) ∧ (w.heap.size ≤ s_) ∧ (gb496 ≠ s_) ∧ (s_ ≠ gb496) ∧ (gb497 ≠ s_) ∧ (s_ ≠ gb497) ∧ (Below w.heap.size w w')) ?_ ?_
           rotate_left
           ·
            intro hCont
            refine two_ (i := 6) (j := 10) (Ni := some 48) (Nj := some 17) #[Y, Y, Y, Y, Y, Y, Y, Z, Z, Z, Z, Z, Z] #[Y, Y, Y, Y, Y, Y, Z, Z, Z, Z, Y, Z, Z] rfl rfl rfl rfl (two_of HT_.out (by kernel_rfl)) (by decide) (by decide) (fun K hK => ?_) (fun K hK => ?_)
            ·
             skip
             refine goes_ Try.func62 (by kernel_rfl) rfl #[.int .i64 a0, .agg #[.int .i64 a1_0, .int .i64 a1_1, .int .i64 a1_2, .int .i64 a1_3], .agg #[.int .i64 ((rd_T39 t501 x16_2).f0), .int .i64 ((rd_T39 t501 x16_2).f1), .int .i64 ((rd_T39 t501 x16_2).f2)]] (by rfl) rfl rfl hA ?_
             with_reducible refine (spec_l04Move.calls k2 a0 a1_0 a1_1 a1_2 a1_3 ((rd_T39 t501 x16_2).f0) ((rd_T39 t501 x16_2).f1) ((rd_T39 t501 x16_2).f2) t506 t507 t508 true _ A18.out).mono ?_
             rintro e w37 ⟨rfl, hb⟩
             have HS4_ := (hb.cell (World.block_lt_of_cell? _ _ (hHeld.2.2.2.2.1))).trans (hHeld.2.2.2.2.1)
             have HS5_ := (hb.cell (World.block_lt_of_cell? _ _ (hHeld.2.2.2.2.2.1))).trans (hHeld.2.2.2.2.2.1)
             have HS6_ := (hb.cell (World.block_lt_of_cell? _ _ (hHeld.2.2.2.2.2.2))).trans (hHeld.2.2.2.2.2.2)
             refine ⟨_, rfl, ?_⟩
             replace HO_12 := Aside0.mk (Kd.R_below (rA HO_12) hb)
             replace HO_14 := Aside0.mk (Kd.R_below (rA HO_14) hb)
             replace BK496 := kB BK496 hb
             replace BK497 := kB BK497 hb
             replace HB := lB hb
             (try clear hb)
             (try clear hb2)
             (try clear hk)
             (try clear hi)
             refine hK.out _ _ ⟨cA BK496 0, cA BK496 1, cA BK496 2, cA BK496 3, HS4_, HS5_, HS6_⟩ (fun hHeld => ?_)
             clear hK K
             refine norm_ (a' := ?_) ?_ ?_
             rotate_left
             ·
              show Act.put _ (some 48) _ = _
              simp only [pA]
              rfl
             refine pure_ (i := 7) (N := some 41) (v := ?_) (a' := ?_) #[Y, Y, Y, Y, Y, Y, Y, Y, Z, Z, Z, Z, Z] rfl rfl (any_of HT_.out (by kernel_rfl)) (fun _ _ _ h => h) (Or.inl ⟨by rfl, ?_⟩) ?_ ?_
             rotate_left
             ·
              intro w'
              go_simp
              with_reducible rfl
             rotate_left
             ·
              simp only [pA]
              rfl
             refine pure_ (i := 8) (N := some 49) (v := ?_) (a' := ?_) #[Y, Y, Y, Y, Y, Y, Y, Y, Y, Z, Z, Z, Z] rfl rfl (any_of HT_.out (by kernel_rfl)) (fun _ _ _ h => h) (Or.inl ⟨by rfl, ?_⟩) ?_ ?_
             rotate_left
             ·
              intro w'
              go_simp
              with_reducible rfl
             rotate_left
             ·
              simp only [pA]
              rfl
             refine pure_ (i := 9) (N := some 50) (v := ?_) (a' := ?_) #[Y, Y, Y, Y, Y, Y, Y, Y, Y, Y, Z, Z, Z] rfl rfl (any_of HT_.out (by kernel_rfl)) (fun _ _ _ h => h) (Or.inl ⟨by rfl, ?_⟩) ?_ ?_
             rotate_left
             ·
              intro w'
              go_simp
              with_reducible rfl
             rotate_left
             ·
              simp only [pA]
              rfl
             refine one_ (i := 10) (N := some 17) #[Y, Y, Y, Y, Y, Y, Y, Y, Y, Y, Y, Z, Z] rfl rfl (one_of HT_.out (by kernel_rfl)) (by decide) (fun K hK => ?_)
             refine box_step ?hg (N := 17) ?hd (cs := #[.int .i64 0, .int .i64 0, .int .i64 0]) (t := 39) ?hr ?_; (case hd => rfl); (case hg => rfl); (case hr => first | (go_simp; done) | (go_simp; rfl))
             intro gb510 hg w38 hbox hb
             have HS4_ := (hb.cell (World.block_lt_of_cell? _ _ (hHeld.2.2.2.2.1))).trans (hHeld.2.2.2.2.1)
             have HS5_ := (hb.cell (World.block_lt_of_cell? _ _ (hHeld.2.2.2.2.2.1))).trans (hHeld.2.2.2.2.2.1)
             have HS6_ := (hb.cell (World.block_lt_of_cell? _ _ (hHeld.2.2.2.2.2.2))).trans (hHeld.2.2.2.2.2.2)
             have BK510 := Aside0.mk (hbox)
             have GW510 := sA hg
             have GE510 := sA hg
             have NB496_510 := nA hg BK496
             have NB510_496 := nB hg BK496
             have NB497_510 := nA hg BK497
             have NB510_497 := nB hg BK497
             replace HO_12 := Aside0.mk (Kd.R_below (Kd.R_elderB (rA HO_12) gb510 (Nat.le_of_eq hg.symm)) hb)
             replace HO_14 := Aside0.mk (Kd.R_below (Kd.R_elderB (rA HO_14) gb510 (Nat.le_of_eq hg.symm)) hb)
             replace BK496 := kB BK496 hb
             replace BK497 := kB BK497 hb
             replace HB := lB hb
             clear hb hbox hg
             refine hK.out _ _ ⟨cA BK496 0, cA BK496 1, cA BK496 2, cA BK496 3, HS4_, HS5_, HS6_⟩ (fun hHeld => ?_)
             clear hK K
             refine norm_ (a' := ?_) ?_ ?_
             rotate_left
             ·
              show Act.put _ (some 17) _ = _
              simp only [pA]
              rfl
             exact norm_ (by simp only [putAll, Act.put, List.setIfInBounds_toArray, List.set_cons_zero, List.set_cons_succ]) (hCont (gb510) _ ⟨hHeld, (by (with_reducible repeat (first | apply Kd.R_alloc | apply Kd.R_drewN | apply Kd.R_drew)); exact Kd.R_mono HO_12.out (fun _ hk => ⟨hk.1.1, ⟨hk.1.2, hk.2⟩⟩)), (by (with_reducible repeat (first | apply Kd.R_alloc | apply Kd.R_drewN | apply Kd.R_drew)); exact Kd.R_mono HO_14.out (fun _ hk => ⟨hk.1.1, ⟨hk.1.2, hk.2⟩⟩)), (bkA BK496), (bkA BK497), (bkA BK510), GW510.out, GE510.out, NB496_510.out, NB510_496.out, NB497_510.out, NB510_497.out, blA⟩)
            ·
             skip
             refine box_step ?hg (N := 17) ?hd (cs := #[.int .i64 0, .int .i64 0, .int .i64 0]) (t := 39) ?hr ?_; (case hd => rfl); (case hg => rfl); (case hr => first | (go_simp; done) | (go_simp; rfl))
             intro gb510 hg w37 hbox hb
             have HS4_ := (hb.cell (World.block_lt_of_cell? _ _ (hHeld.2.2.2.2.1))).trans (hHeld.2.2.2.2.1)
             have HS5_ := (hb.cell (World.block_lt_of_cell? _ _ (hHeld.2.2.2.2.2.1))).trans (hHeld.2.2.2.2.2.1)
             have HS6_ := (hb.cell (World.block_lt_of_cell? _ _ (hHeld.2.2.2.2.2.2))).trans (hHeld.2.2.2.2.2.2)
             have BK510 := Aside0.mk (hbox)
             have GW510 := sA hg
             have GE510 := sA hg
             have NB496_510 := nA hg BK496
             have NB510_496 := nB hg BK496
             have NB497_510 := nA hg BK497
             have NB510_497 := nB hg BK497
             replace HO_12 := Aside0.mk (Kd.R_below (Kd.R_elderB (rA HO_12) gb510 (Nat.le_of_eq hg.symm)) hb)
             replace HO_14 := Aside0.mk (Kd.R_below (Kd.R_elderB (rA HO_14) gb510 (Nat.le_of_eq hg.symm)) hb)
             replace BK496 := kB BK496 hb
             replace BK497 := kB BK497 hb
             replace HB := lB hb
             clear hb hbox hg
             refine hK.out _ _ ⟨cA BK496 0, cA BK496 1, cA BK496 2, cA BK496 3, HS4_, HS5_, HS6_⟩ (fun hHeld => ?_)
             clear hK K
             refine norm_ (a' := ?_) ?_ ?_
             rotate_left
             ·
              show Act.put _ (some 17) _ = _
              simp only [pA]
              rfl
             refine one_ (i := 6) (N := some 48) #[Y, Y, Y, Y, Y, Y, Y, Z, Z, Z, Y, Z, Z] rfl rfl (one_of HT_.out (by kernel_rfl)) (by decide) (fun K hK => ?_)
             refine goes_ Try.func62 (by kernel_rfl) rfl #[.int .i64 a0, .agg #[.int .i64 a1_0, .int .i64 a1_1, .int .i64 a1_2, .int .i64 a1_3], .agg #[.int .i64 ((rd_T39 t501 x16_2).f0), .int .i64 ((rd_T39 t501 x16_2).f1), .int .i64 ((rd_T39 t501 x16_2).f2)]] (by rfl) rfl rfl hA ?_
             with_reducible refine (spec_l04Move.calls k2 a0 a1_0 a1_1 a1_2 a1_3 ((rd_T39 t501 x16_2).f0) ((rd_T39 t501 x16_2).f1) ((rd_T39 t501 x16_2).f2) t506 t507 t508 true _ A18.out).mono ?_
             rintro e w38 ⟨rfl, hb⟩
             have HS4_ := (hb.cell (World.block_lt_of_cell? _ _ (hHeld.2.2.2.2.1))).trans (hHeld.2.2.2.2.1)
             have HS5_ := (hb.cell (World.block_lt_of_cell? _ _ (hHeld.2.2.2.2.2.1))).trans (hHeld.2.2.2.2.2.1)
             have HS6_ := (hb.cell (World.block_lt_of_cell? _ _ (hHeld.2.2.2.2.2.2))).trans (hHeld.2.2.2.2.2.2)
             refine ⟨_, rfl, ?_⟩
             replace HO_12 := Aside0.mk (Kd.R_below (rA HO_12) hb)
             replace HO_14 := Aside0.mk (Kd.R_below (rA HO_14) hb)
             replace BK496 := kB BK496 hb
             replace BK497 := kB BK497 hb
             replace BK510 := kB BK510 hb
             replace HB := lB hb
             (try clear hb)
             (try clear hb2)
             (try clear hk)
             (try clear hi)
             refine hK.out _ _ ⟨cA BK496 0, cA BK496 1, cA BK496 2, cA BK496 3, HS4_, HS5_, HS6_⟩ (fun hHeld => ?_)
             clear hK K
             refine norm_ (a' := ?_) ?_ ?_
             rotate_left
             ·
              show Act.put _ (some 48) _ = _
              simp only [pA]
              rfl
             refine pure_ (i := 7) (N := some 41) (v := ?_) (a' := ?_) #[Y, Y, Y, Y, Y, Y, Y, Y, Z, Z, Y, Z, Z] rfl rfl (any_of HT_.out (by kernel_rfl)) (fun _ _ _ h => h) (Or.inl ⟨by rfl, ?_⟩) ?_ ?_
             rotate_left
             ·
              intro w'
              go_simp
              with_reducible rfl
             rotate_left
             ·
              simp only [pA]
              rfl
             refine pure_ (i := 8) (N := some 49) (v := ?_) (a' := ?_) #[Y, Y, Y, Y, Y, Y, Y, Y, Y, Z, Y, Z, Z] rfl rfl (any_of HT_.out (by kernel_rfl)) (fun _ _ _ h => h) (Or.inl ⟨by rfl, ?_⟩) ?_ ?_
             rotate_left
             ·
              intro w'
              go_simp
              with_reducible rfl
             rotate_left
             ·
              simp only [pA]
              rfl
             refine pure_ (i := 9) (N := some 50) (v := ?_) (a' := ?_) #[Y, Y, Y, Y, Y, Y, Y, Y, Y, Y, Y, Z, Z] rfl rfl (any_of HT_.out (by kernel_rfl)) (fun _ _ _ h => h) (Or.inl ⟨by rfl, ?_⟩) ?_ ?_
             rotate_left
             ·
              intro w'
              go_simp
              with_reducible rfl
             rotate_left
             ·
              simp only [pA]
              rfl
             exact norm_ (by simp only [putAll, Act.put, List.setIfInBounds_toArray, List.set_cons_zero, List.set_cons_succ]) (hCont (gb510) _ ⟨hHeld, (by (with_reducible repeat (first | apply Kd.R_alloc | apply Kd.R_drewN | apply Kd.R_drew)); exact Kd.R_mono HO_12.out (fun _ hk => ⟨hk.1.1, ⟨hk.1.2, hk.2⟩⟩)), (by (with_reducible repeat (first | apply Kd.R_alloc | apply Kd.R_drewN | apply Kd.R_drew)); exact Kd.R_mono HO_14.out (fun _ hk => ⟨hk.1.1, ⟨hk.1.2, hk.2⟩⟩)), (bkA BK496), (bkA BK497), (bkA BK510), GW510.out, GE510.out, NB496_510.out, NB510_496.out, NB497_510.out, NB510_497.out, blA⟩)
           rintro gb510 w39 ⟨hS_, h0_, h1_, h2_, h3_, h4_, h5_, h6_, h7_, h8_, h9_, h10_, h11_⟩
           have BK510 := Aside0.mk h4_
           have GW510 := Aside0.mk h5_
           have GE510 := Aside0.mk h6_
           have NB496_510 := Aside0.mk h7_
           have NB510_496 := Aside0.mk h8_
           have NB497_510 := Aside0.mk h9_
           have NB510_497 := Aside0.mk h10_
           replace HO_12 := Aside0.mk h0_
           replace HO_14 := Aside0.mk h1_
           replace BK496 := Aside0.mk h2_
           replace BK497 := Aside0.mk h3_
           replace HB := Aside0.mk h11_
           clear h0_ h1_ h2_ h3_ h4_ h5_ h6_ h7_ h8_ h9_ h10_ h11_
           have hHeld : w39.cell? ⟨gb496, 0, none⟩ = some (.int .i64 a1_0) ∧ w39.cell? ⟨gb496, 1, none⟩ = some (.int .i64 a1_1) ∧ w39.cell? ⟨gb496, 2, none⟩ = some (.int .i64 a1_2) ∧ w39.cell? ⟨gb496, 3, none⟩ = some (.int .i64 a1_3) ∧ w39.cell? (ad505.add ((x16_2).toNat * 3)) = some (.int .i64 ((rd_T39 t501 x16_2).f0)) ∧ w39.cell? ⟨(ad505.add ((x16_2).toNat * 3)).block, (ad505.add ((x16_2).toNat * 3)).off + 1, none⟩ = some (.int .i64 ((rd_T39 t501 x16_2).f1)) ∧ w39.cell? ⟨(ad505.add ((x16_2).toNat * 3)).block, (ad505.add ((x16_2).toNat * 3)).off + 2, none⟩ = some (.int .i64 ((rd_T39 t501 x16_2).f2)) := hS_
           refine norm_ (a' := ?_) ?_ ?_
           rotate_left
           ·
            simp only [putAll, Act.put, List.setIfInBounds_toArray, List.set_cons_zero, List.set_cons_succ]
            rfl
           refine one_ (i := 11) (N := none) #[Y, Y, Y, Y, Y, Y, Y, Y, Y, Y, Y, Y, Z] rfl rfl (one_of HT_.out (by kernel_rfl)) (by decide) (fun K hK => ?_)
           have hs40 : w39.cell? ⟨gb510, 0, none⟩ = some (.int .i64 0) := cA BK510 0
           have hfs40 := blk_frozen BK510.out 0
           have hns40_0 := NB496_510.out
           have hns40_1 := NB497_510.out
           have hms40_0 := NB510_496.out
           have hms40_1 := NB510_497.out
           have hs41 : w39.cell? ⟨gb510, 1, none⟩ = some (.int .i64 0) := cA BK510 1
           have hfs41 := blk_frozen BK510.out 1
           have hns41_0 := NB496_510.out
           have hns41_1 := NB497_510.out
           have hms41_0 := NB510_496.out
           have hms41_1 := NB510_497.out
           have hs42 : w39.cell? ⟨gb510, 2, none⟩ = some (.int .i64 0) := cA BK510 2
           have hfs42 := blk_frozen BK510.out 2
           have hns42_0 := NB496_510.out
           have hns42_1 := NB497_510.out
           have hms42_0 := NB510_496.out
           have hms42_1 := NB510_497.out
           refine skip_ (w1 := ?_) (by rfl) rfl ?_ ?_
           rotate_left
           ·
            go_simp
            rfl
           refine hK.out _ _ ⟨((cell_far (p := ⟨gb510, _, none⟩) NB496_510.out _).trans (((cell_far (p := ⟨gb510, _, none⟩) NB496_510.out _).trans (((cell_far (p := ⟨gb510, _, none⟩) NB496_510.out _).trans (hHeld.1)))))), ((cell_far (p := ⟨gb510, _, none⟩) NB496_510.out _).trans (((cell_far (p := ⟨gb510, _, none⟩) NB496_510.out _).trans (((cell_far (p := ⟨gb510, _, none⟩) NB496_510.out _).trans (hHeld.2.1)))))), ((cell_far (p := ⟨gb510, _, none⟩) NB496_510.out _).trans (((cell_far (p := ⟨gb510, _, none⟩) NB496_510.out _).trans (((cell_far (p := ⟨gb510, _, none⟩) NB496_510.out _).trans (hHeld.2.2.1)))))), ((cell_far (p := ⟨gb510, _, none⟩) NB496_510.out _).trans (((cell_far (p := ⟨gb510, _, none⟩) NB496_510.out _).trans (((cell_far (p := ⟨gb510, _, none⟩) NB496_510.out _).trans (hHeld.2.2.2.1)))))), ((cell_far (p := ⟨gb510, _, none⟩) (fB (Kd.own_blk (Kd.R_away HO_14.out (fun _ hk => hk.2.2)))) _).trans (((cell_far (p := ⟨gb510, _, none⟩) (fB (Kd.own_blk (Kd.R_away HO_14.out (fun _ hk => hk.2.2)))) _).trans (((cell_far (p := ⟨gb510, _, none⟩) (fB (Kd.own_blk (Kd.R_away HO_14.out (fun _ hk => hk.2.2)))) _).trans (hHeld.2.2.2.2.1)))))), ((cell_far (p := ⟨gb510, _, none⟩) (fB (Kd.own_blk (Kd.R_away HO_14.out (fun _ hk => hk.2.2)))) _).trans (((cell_far (p := ⟨gb510, _, none⟩) (fB (Kd.own_blk (Kd.R_away HO_14.out (fun _ hk => hk.2.2)))) _).trans (((cell_far (p := ⟨gb510, _, none⟩) (fB (Kd.own_blk (Kd.R_away HO_14.out (fun _ hk => hk.2.2)))) _).trans (hHeld.2.2.2.2.2.1)))))), ((cell_far (p := ⟨gb510, _, none⟩) (fB (Kd.own_blk (Kd.R_away HO_14.out (fun _ hk => hk.2.2)))) _).trans (((cell_far (p := ⟨gb510, _, none⟩) (fB (Kd.own_blk (Kd.R_away HO_14.out (fun _ hk => hk.2.2)))) _).trans (((cell_far (p := ⟨gb510, _, none⟩) (fB (Kd.own_blk (Kd.R_away HO_14.out (fun _ hk => hk.2.2)))) _).trans (hHeld.2.2.2.2.2.2))))))⟩ (fun hHeld => ?_)
           clear hK K
           refine pure_ (i := 12) (N := some 18) (v := ?_) (a' := ?_) #[Y, Y, Y, Y, Y, Y, Y, Y, Y, Y, Y, Y, Y] rfl rfl (any_of HT_.out (by kernel_rfl)) (fun _ _ _ h => h) (Or.inl ⟨by rfl, ?_⟩) ?_ ?_
           rotate_left
           ·
            intro w'
            go_simp
            with_reducible rfl
           rotate_left
           ·
            simp only [pA]
            rfl
           refine done_ (done_of HT_.out (by kernel_rfl)) ?_
           try go_wp2
           have n0_ : Aside0 (Kd.R k39 39 (((w39.setCell ⟨gb510, 0, none⟩ (.int .i64 t506)).setCell ⟨gb510, 1, none⟩ (.int .i64 t507)).setCell ⟨gb510, 2, none⟩ (.int .i64 t508)) w.heap.size (fun k_ => some k_ ≠ (.slice (some ad505) t501.length co35 : Value).ownBlock ∧ k_ ≠ gb497 ∧ k_ ≠ gb510) u12 x12_2) := ⟨by (with_reducible repeat (first | apply Kd.R_alloc | apply Kd.R_drewN | apply Kd.R_drew)); exact Kd.R_mono (Kd.R_far (p := ⟨gb510, 2, none⟩) (Kd.R_far (p := ⟨gb510, 1, none⟩) (Kd.R_far (p := ⟨gb510, 0, none⟩) (Kd.R_mono HO_12.out (fun k_ hk => (⟨hk, hk.2.2⟩ : _ ∧ k_ ≠ gb510))) (fun _ hk => hk.2) (.int .i64 t506)) (fun _ hk => hk.2) (.int .i64 t507)) (fun _ hk => hk.2) (.int .i64 t508)) (fun _ hk => ⟨hk.1.1, ⟨hk.1.2.1, hk.1.2.2⟩⟩)⟩
           have n1_ : Aside0 (Kd.R k39 39 (((w39.setCell ⟨gb510, 0, none⟩ (.int .i64 t506)).setCell ⟨gb510, 1, none⟩ (.int .i64 t507)).setCell ⟨gb510, 2, none⟩ (.int .i64 t508)) w.heap.size (fun k_ => some k_ ≠ (u12 : Value).ownBlock ∧ k_ ≠ gb497 ∧ k_ ≠ gb510) (.slice (some ad505) t501.length co35) t501) := ⟨by (with_reducible repeat (first | apply Kd.R_alloc | apply Kd.R_drewN | apply Kd.R_drew)); exact Kd.R_mono (Kd.R_far (p := ⟨gb510, 2, none⟩) (Kd.R_far (p := ⟨gb510, 1, none⟩) (Kd.R_far (p := ⟨gb510, 0, none⟩) (Kd.R_mono HO_14.out (fun k_ hk => (⟨hk, hk.2.2⟩ : _ ∧ k_ ≠ gb510))) (fun _ hk => hk.2) (.int .i64 t506)) (fun _ hk => hk.2) (.int .i64 t507)) (fun _ hk => hk.2) (.int .i64 t508)) (fun _ hk => ⟨hk.1.1, ⟨hk.1.2.1, hk.1.2.2⟩⟩)⟩
           have n2_ : Aside0 ((((w39.setCell ⟨gb510, 0, none⟩ (.int .i64 t506)).setCell ⟨gb510, 1, none⟩ (.int .i64 t507)).setCell ⟨gb510, 2, none⟩ (.int .i64 t508)).heap[gb496]? = some (.cells #[.int .i64 a1_0, .int .i64 a1_1, .int .i64 a1_2, .int .i64 a1_3] 26 (0, 0))) := ⟨bkF BK496⟩
           have n3_ : Aside0 ((((w39.setCell ⟨gb510, 0, none⟩ (.int .i64 t506)).setCell ⟨gb510, 1, none⟩ (.int .i64 t507)).setCell ⟨gb510, 2, none⟩ (.int .i64 t508)).heap[gb497]? = some (.cells #[.int .i64 a2_0, .int .i64 a2_1, .int .i64 a2_2] 39 (0, 0))) := ⟨bkF BK497⟩
           have n4_ : Aside0 ((((w39.setCell ⟨gb510, 0, none⟩ (.int .i64 t506)).setCell ⟨gb510, 1, none⟩ (.int .i64 t507)).setCell ⟨gb510, 2, none⟩ (.int .i64 t508)).heap[gb510]? = some (.cells #[.int .i64 t506, .int .i64 t507, .int .i64 t508] 39 (0, 0))) := ⟨by (with_reducible repeat (first | refine blk_drewN ?_ _ | refine blk_drew ?_ | refine blk_alloc ?_ _)); refine blk_put (cs := #[.int .i64 t506, .int .i64 t507, .int .i64 0]) ?_ 2 _ rfl; (with_reducible repeat (first | refine blk_drewN ?_ _ | refine blk_drew ?_ | refine blk_alloc ?_ _)); refine blk_put (cs := #[.int .i64 t506, .int .i64 0, .int .i64 0]) ?_ 1 _ rfl; (with_reducible repeat (first | refine blk_drewN ?_ _ | refine blk_drew ?_ | refine blk_alloc ?_ _)); refine blk_put (cs := #[.int .i64 0, .int .i64 0, .int .i64 0]) ?_ 0 _ rfl; (with_reducible repeat (first | refine blk_drewN ?_ _ | refine blk_drew ?_ | refine blk_alloc ?_ _)); exact BK510.out⟩
           have n5_ : Aside0 (Below w.heap.size w (((w39.setCell ⟨gb510, 0, none⟩ (.int .i64 t506)).setCell ⟨gb510, 1, none⟩ (.int .i64 t507)).setCell ⟨gb510, 2, none⟩ (.int .i64 t508))) := ⟨blA⟩
           (try clear HO_12)
           (try clear HO_14)
           (try clear BK496)
           (try clear BK497)
           (try clear BK510)
           (try clear HB)
           generalize (((w39.setCell ⟨gb510, 0, none⟩ (.int .i64 t506)).setCell ⟨gb510, 1, none⟩ (.int .i64 t507)).setCell ⟨gb510, 2, none⟩ (.int .i64 t508)) = w43 at n0_ n1_ n2_ n3_ n4_ n5_ ⊢
           have HO_12 := n0_
           have HO_14 := n1_
           have BK496 := n2_
           have BK497 := n3_
           have BK510 := n4_
           have HB := n5_
           clear n0_ n1_ n2_ n3_ n4_ n5_
           have n0_ := Aside0.mk (Kd.R_drew HO_12.out)
           have n1_ := Aside0.mk (Kd.R_drew HO_14.out)
           have n2_ := Aside0.mk (blk_drew BK496.out)
           have n3_ := Aside0.mk (blk_drew BK497.out)
           have n4_ := Aside0.mk (blk_drew BK510.out)
           have n5_ := Aside0.mk (below_drew1 HB.out)
           clear HO_12
           clear HO_14
           clear BK496
           clear BK497
           clear BK510
           clear HB
           have HO_12 := n0_
           have HO_14 := n1_
           have BK496 := n2_
           have BK497 := n3_
           have BK510 := n4_
           have HB := n5_
           clear n0_ n1_ n2_ n3_ n4_ n5_
           have p511 : 0 ≤ (x16_2 : Int) := dA
           have q511 : x16_2 < (t501.length : Int) := dA
           obtain ⟨ad511, e511, hx511_0, hx511_1, hx511_2⟩ := at_T39 (Kd.R_reads' HO_14.out).2.2 x16_2 p511 q511
           obtain rfl : ad505 = ad511 := (by injection e511)
           replace p511 := eq_true p511
           replace q511 := eq_true q511
           refine start_ (n := 9) (S := fun w' => w'.cell? ⟨gb510, 0, none⟩ = some (.int .i64 t506) ∧ w'.cell? ⟨gb510, 1, none⟩ = some (.int .i64 t507) ∧ w'.cell? ⟨gb510, 2, none⟩ = some (.int .i64 t508) ∧ w'.cell? (ad505.add ((x16_2).toNat * 3)) = some (.int .i64 ((rd_T39 t501 x16_2).f0)) ∧ w'.cell? ⟨(ad505.add ((x16_2).toNat * 3)).block, (ad505.add ((x16_2).toNat * 3)).off + 1, none⟩ = some (.int .i64 ((rd_T39 t501 x16_2).f1)) ∧ w'.cell? ⟨(ad505.add ((x16_2).toNat * 3)).block, (ad505.add ((x16_2).toNat * 3)).off + 2, none⟩ = some (.int .i64 ((rd_T39 t501 x16_2).f2))) (ds := []) #[Z, Z, Z, Z, Z, Z, Z, Z, Z] (by kernel_rfl) rfl rfl ⟨cA BK510 0, cA BK510 1, cA BK510 2, hx511_0, hx511_1, hx511_2⟩ (fun hHeld => ?_); refine with_tabW spec_l04Near.tab14 spec_l04Near.bits14 (fun HT_ HW_ => ?_)
           generalize w43.drew = w44 at HO_12 HO_14 BK496 BK497 BK510 HB hx511_0 hx511_1 hx511_2 hHeld ⊢
           refine pure_ (i := 0) (N := some 53) (v := ?_) (a' := ?_) #[Y, Z, Z, Z, Z, Z, Z, Z, Z] rfl rfl (any_of HT_.out (by kernel_rfl)) (fun _ _ _ h => h) (Or.inl ⟨by rfl, ?_⟩) ?_ ?_
           rotate_left
           ·
            intro w'
            go_simp
            with_reducible rfl
           rotate_left
           ·
            simp only [pA]
            rfl
           refine pure_ (i := 1) (N := some 54) (v := ?_) (a' := ?_) #[Y, Y, Z, Z, Z, Z, Z, Z, Z] rfl rfl (any_of HT_.out (by kernel_rfl)) (fun _ _ _ h => h) (Or.inl ⟨by rfl, ?_⟩) ?_ ?_
           rotate_left
           ·
            intro w'
            go_simp
            with_reducible rfl
           rotate_left
           ·
            simp only [pA]
            rfl
           refine pure_ (i := 2) (N := some 55) (v := ?_) (a' := ?_) #[Y, Y, Y, Z, Z, Z, Z, Z, Z] rfl rfl (any_of HT_.out (by kernel_rfl)) (fun _ _ _ h => h) (Or.inl ⟨by rfl, ?_⟩) ?_ ?_
           rotate_left
           ·
            intro w'
            go_simp
            with_reducible rfl
           rotate_left
           ·
            simp only [pA]
            rfl
           refine pure_ (i := 3) (N := some 56) (v := ?_) (a' := ?_) #[Y, Y, Y, Y, Z, Z, Z, Z, Z] rfl rfl (any_of HT_.out (by kernel_rfl)) (fun _ _ _ h => h) (Or.inl ⟨by rfl, ?_⟩) ?_ ?_
           rotate_left
           ·
            intro w'
            go_simp
            with_reducible rfl
           rotate_left
           ·
            simp only [pA]
            rfl
           refine pure_ (i := 7) (N := some 60) (v := ?_) (a' := ?_) #[Y, Y, Y, Y, Z, Z, Z, Y, Z] rfl rfl (any_of HT_.out (by kernel_rfl)) (fun _ _ _ h => h) (Or.inl ⟨by rfl, ?_⟩) ?_ ?_
           rotate_left
           ·
            intro w'
            go_simp
            with_reducible rfl
           rotate_left
           ·
            simp only [pA]
            rfl
           refine take_ (i := 4) (N := some 57) (v := ?_) (a' := ?_) #[Y, Y, Y, Y, Y, Z, Z, Y, Z] rfl rfl (take_ofW HT_.out HW_.out (by kernel_rfl)) (fun _ _ _ h => h) (Or.inl ⟨by rfl, ?_⟩) hHeld ?_ ?_
           rotate_left
           ·
            rintro w' ⟨s0, s1, s2, s3, s4, s5⟩
            go_simp
            with_reducible rfl
           rotate_left
           ·
            simp only [pA]
            rfl
           refine take_ (i := 5) (N := some 58) (v := ?_) (a' := ?_) #[Y, Y, Y, Y, Y, Y, Z, Y, Z] rfl rfl (take_ofW HT_.out HW_.out (by kernel_rfl)) (fun _ _ _ h => h) (Or.inl ⟨by rfl, ?_⟩) hHeld ?_ ?_
           rotate_left
           ·
            rintro w' ⟨s0, s1, s2, s3, s4, s5⟩
            go_simp
            with_reducible rfl
           rotate_left
           ·
            simp only [pA]
            rfl
           refine one_ (i := 6) (N := some 59) #[Y, Y, Y, Y, Y, Y, Y, Y, Z] rfl rfl (one_of HT_.out (by kernel_rfl)) (by decide) (fun K hK => ?_)
           refine goes_ Try.func102 (by kernel_rfl) rfl #[.int .i64 a0, .agg #[.int .i64 ((rd_T39 t501 x16_2).f0), .int .i64 ((rd_T39 t501 x16_2).f1), .int .i64 ((rd_T39 t501 x16_2).f2)], .agg #[.int .i64 t506, .int .i64 t507, .int .i64 t508]] (by rfl) rfl rfl hA ?_
           with_reducible refine (spec_l02Distance.calls k2 a0 ((rd_T39 t501 x16_2).f0) ((rd_T39 t501 x16_2).f1) ((rd_T39 t501 x16_2).f2) t506 t507 t508 t512 _ A20.out).mono ?_
           rintro e w45 ⟨rfl, hb⟩
           have HS3_ := (hb.cell (World.block_lt_of_cell? _ _ (hHeld.2.2.2.1))).trans (hHeld.2.2.2.1)
           have HS4_ := (hb.cell (World.block_lt_of_cell? _ _ (hHeld.2.2.2.2.1))).trans (hHeld.2.2.2.2.1)
           have HS5_ := (hb.cell (World.block_lt_of_cell? _ _ (hHeld.2.2.2.2.2))).trans (hHeld.2.2.2.2.2)
           refine ⟨_, rfl, ?_⟩
           replace HO_12 := Aside0.mk (Kd.R_below (rA HO_12) hb)
           replace HO_14 := Aside0.mk (Kd.R_below (rA HO_14) hb)
           replace BK496 := kB BK496 hb
           replace BK497 := kB BK497 hb
           replace BK510 := kB BK510 hb
           replace HB := lB hb
           (try clear hb)
           (try clear hb2)
           (try clear hk)
           (try clear hi)
           refine hK.out _ _ ⟨cA BK510 0, cA BK510 1, cA BK510 2, HS3_, HS4_, HS5_⟩ (fun hHeld => ?_)
           clear hK K
           refine norm_ (a' := ?_) ?_ ?_
           rotate_left
           ·
            show Act.put _ (some 59) _ = _
            simp only [pA]
            rfl
           refine pure_ (i := 8) (N := some 61) (v := ?_) (a' := ?_) #[Y, Y, Y, Y, Y, Y, Y, Y, Y] rfl rfl (any_of HT_.out (by kernel_rfl)) (fun _ _ _ h => h) (Or.inl ⟨by rfl, ?_⟩) ?_ ?_
           rotate_left
           ·
            intro w'
            go_simp
            with_reducible rfl
           rotate_left
           ·
            simp only [pA]
            rfl
           refine done_ (done_of HT_.out (by kernel_rfl)) ?_
           try go_wp2
           go_roundg k2
           case measure => have := HK1.out; have := HK2.out; omega
           case rel => exact ⟨(x12_2), (wrap64 (x16_2 + 1)), hB, H', ⟨by have := HK1.out; have := HK2.out; omega⟩, ⟨by (with_reducible repeat (first | apply Kd.R_alloc | apply Kd.R_drewN | apply Kd.R_drew)); exact Kd.R_mono HO_12.out (fun _ hk => ⟨hk.1, hk.2.1⟩)⟩, ⟨by (with_reducible repeat (first | apply Kd.R_alloc | apply Kd.R_drewN | apply Kd.R_drew)); exact Kd.R_mono HO_14.out (fun _ hk => ⟨hk.1, hk.2.1⟩)⟩, ⟨bkA BK496⟩, ⟨bkA BK497⟩, ⟨blA⟩⟩
         ·
          replace c19 := Bool.eq_false_iff.mpr c19
          subst c19
          rw [if_neg (show ¬ (false = true) by decide)] at H
          try dsimp only at H
          simp only [Option.some.injEq, Prod.mk.injEq] at H
          obtain ⟨rfl, rfl⟩ := H
          obtain ⟨Ao46, co46, eo46⟩ := Kd.R_slice HO_14.out
          subst eo46
          try go_wp2
          have n0_ := Aside0.mk (Kd.R_drew HO_12.out)
          have n1_ := Aside0.mk (Kd.R_drew HO_14.out)
          have n2_ := Aside0.mk (blk_drew BK496.out)
          have n3_ := Aside0.mk (blk_drew BK497.out)
          have n4_ := Aside0.mk (below_drew1 HB.out)
          clear HO_12
          clear HO_14
          clear BK496
          clear BK497
          clear HB
          have HO_12 := n0_
          have HO_14 := n1_
          have BK496 := n2_
          have BK497 := n3_
          have HB := n4_
          clear n0_ n1_ n2_ n3_ n4_
          have p505 : 0 ≤ (x16_2 : Int) := dA
          have q505 : x16_2 < (t501.length : Int) := dA
          obtain ⟨ad505, e505, hx505_0, hx505_1, hx505_2⟩ := at_T39 (Kd.R_reads' HO_14.out).2.2 x16_2 p505 q505
          cases e505
          replace p505 := eq_true p505
          replace q505 := eq_true q505
          refine start_ (n := 13) (S := fun w' => w'.cell? ⟨gb496, 0, none⟩ = some (.int .i64 a1_0) ∧ w'.cell? ⟨gb496, 1, none⟩ = some (.int .i64 a1_1) ∧ w'.cell? ⟨gb496, 2, none⟩ = some (.int .i64 a1_2) ∧ w'.cell? ⟨gb496, 3, none⟩ = some (.int .i64 a1_3) ∧ w'.cell? (ad505.add ((x16_2).toNat * 3)) = some (.int .i64 ((rd_T39 t501 x16_2).f0)) ∧ w'.cell? ⟨(ad505.add ((x16_2).toNat * 3)).block, (ad505.add ((x16_2).toNat * 3)).off + 1, none⟩ = some (.int .i64 ((rd_T39 t501 x16_2).f1)) ∧ w'.cell? ⟨(ad505.add ((x16_2).toNat * 3)).block, (ad505.add ((x16_2).toNat * 3)).off + 2, none⟩ = some (.int .i64 ((rd_T39 t501 x16_2).f2))) (ds := []) #[Z, Z, Z, Z, Z, Z, Z, Z, Z, Z, Z, Z, Z] (by kernel_rfl) rfl rfl ⟨cA BK496 0, cA BK496 1, cA BK496 2, cA BK496 3, hx505_0, hx505_1, hx505_2⟩ (fun hHeld => ?_); refine with_tabW spec_l04Near.tab11 spec_l04Near.bits11 (fun HT_ HW_ => ?_)
          generalize wr.drew = w47 at HO_12 HO_14 BK496 BK497 HB hx505_0 hx505_1 hx505_2 hHeld ⊢
          refine pure_ (i := 0) (N := some 42) (v := ?_) (a' := ?_) #[Y, Z, Z, Z, Z, Z, Z, Z, Z, Z, Z, Z, Z] rfl rfl (any_of HT_.out (by kernel_rfl)) (fun _ _ _ h => h) (Or.inl ⟨by rfl, ?_⟩) ?_ ?_
          rotate_left
          ·
           intro w'
           go_simp
           with_reducible rfl
          rotate_left
          ·
           simp only [pA]
           rfl
          refine pure_ (i := 2) (N := some 44) (v := ?_) (a' := ?_) #[Y, Z, Y, Z, Z, Z, Z, Z, Z, Z, Z, Z, Z] rfl rfl (any_of HT_.out (by kernel_rfl)) (fun _ _ _ h => h) (Or.inl ⟨by rfl, ?_⟩) ?_ ?_
          rotate_left
          ·
           intro w'
           go_simp
           with_reducible rfl
          rotate_left
          ·
           simp only [pA]
           rfl
          refine pure_ (i := 3) (N := some 45) (v := ?_) (a' := ?_) #[Y, Z, Y, Y, Z, Z, Z, Z, Z, Z, Z, Z, Z] rfl rfl (any_of HT_.out (by kernel_rfl)) (fun _ _ _ h => h) (Or.inl ⟨by rfl, ?_⟩) ?_ ?_
          rotate_left
          ·
           intro w'
           go_simp
           with_reducible rfl
          rotate_left
          ·
           simp only [pA]
           rfl
          refine pure_ (i := 4) (N := some 46) (v := ?_) (a' := ?_) #[Y, Z, Y, Y, Y, Z, Z, Z, Z, Z, Z, Z, Z] rfl rfl (any_of HT_.out (by kernel_rfl)) (fun _ _ _ h => h) (Or.inl ⟨by rfl, ?_⟩) ?_ ?_
          rotate_left
          ·
           intro w'
           go_simp
           with_reducible rfl
          rotate_left
          ·
           simp only [pA]
           rfl
          refine take_ (i := 1) (N := some 43) (v := ?_) (a' := ?_) #[Y, Y, Y, Y, Y, Z, Z, Z, Z, Z, Z, Z, Z] rfl rfl (take_ofW HT_.out HW_.out (by kernel_rfl)) (fun _ _ _ h => h) (Or.inl ⟨by rfl, ?_⟩) hHeld ?_ ?_
          rotate_left
          ·
           rintro w' ⟨s0, s1, s2, s3, s4, s5, s6⟩
           go_simp
           with_reducible rfl
          rotate_left
          ·
           simp only [pA]
           rfl
          refine take_ (i := 5) (N := some 47) (v := ?_) (a' := ?_) #[Y, Y, Y, Y, Y, Y, Z, Z, Z, Z, Z, Z, Z] rfl rfl (take_ofW HT_.out HW_.out (by kernel_rfl)) (fun _ _ _ h => h) (Or.inl ⟨by rfl, ?_⟩) hHeld ?_ ?_
          rotate_left
          ·
           rintro w' ⟨s0, s1, s2, s3, s4, s5, s6⟩
           go_simp
           with_reducible rfl
          rotate_left
          ·
           simp only [pA]
           rfl
          refine join_ (σ := Nat) 2 #[Y, Y, Y, Y, Y, Y, Y, Y, Y, Y, Y, Z, Z] (fun s_ => [(48, .tuple #[.agg #[.int .i64 t506, .int .i64 t507, .int .i64 t508], .bool false]), (17, .pointer (some ⟨s_, 0, none⟩)), (41, .tuple #[.agg #[.int .i64 t506, .int .i64 t507, .int .i64 t508], .bool false]), (49, .agg #[.int .i64 t506, .int .i64 t507, .int .i64 t508]), (50, .bool false)]) (fun s_ w' => (w'.cell? ⟨gb496, 0, none⟩ = some (.int .i64 a1_0) ∧ w'.cell? ⟨gb496, 1, none⟩ = some (.int .i64 a1_1) ∧ w'.cell? ⟨gb496, 2, none⟩ = some (.int .i64 a1_2) ∧ w'.cell? ⟨gb496, 3, none⟩ = some (.int .i64 a1_3) ∧ w'.cell? (ad505.add ((x16_2).toNat * 3)) = some (.int .i64 ((rd_T39 t501 x16_2).f0)) ∧ w'.cell? ⟨(ad505.add ((x16_2).toNat * 3)).block, (ad505.add ((x16_2).toNat * 3)).off + 1, none⟩ = some (.int .i64 ((rd_T39 t501 x16_2).f1)) ∧ w'.cell? ⟨(ad505.add ((x16_2).toNat * 3)).block, (ad505.add ((x16_2).toNat * 3)).off + 2, none⟩ = some (.int .i64 ((rd_T39 t501 x16_2).f2))) ∧ (Kd.R k39 39 w' w.heap.size (fun k_ => some k_ ≠ (.slice (some ad505) t501.length co46 : Value).ownBlock ∧ k_ ≠ gb497 ∧ k_ ≠ s_) u12 x12_2) ∧ (Kd.R k39 39 w' w.heap.size (fun k_ => some k_ ≠ (u12 : Value).ownBlock ∧ k_ ≠ gb497 ∧ k_ ≠ s_) (.slice (some ad505) t501.length co46) t501) ∧ (w'.heap[gb496]? = some (.cells #[.int .i64 a1_0, .int .i64 a1_1, .int .i64 a1_2, .int .i64 a1_3] 26 (0, 0))) ∧ (w'.heap[gb497]? = some (.cells #[.int .i64 a2_0, .int .i64 a2_1, .int .i64 a2_2] 39 (0, 0))) ∧ (w'.heap[s_]? = some (.cells #[.int .i64 0, .int .i64 0, .int .i64 0] 39 (0, 0))) ∧ (w.heap.size ≤ s_) ∧ (w.heap.size ≤ s_) ∧ (gb496 ≠ s_) ∧ (s_ ≠ gb496) ∧ (gb497 ≠ s_) ∧ (s_ ≠ gb497) ∧ (Below w.heap.size w w')) ?_ ?_
          rotate_left
          ·
           intro hCont
           refine two_ (i := 6) (j := 10) (Ni := some 48) (Nj := some 17) #[Y, Y, Y, Y, Y, Y, Y, Z, Z, Z, Z, Z, Z] #[Y, Y, Y, Y, Y, Y, Z, Z, Z, Z, Y, Z, Z] rfl rfl rfl rfl (two_of HT_.out (by kernel_rfl)) (by decide) (by decide) (fun K hK => ?_) (fun K hK => ?_)
           ·
            skip
            refine goes_ Try.func62 (by kernel_rfl) rfl #[.int .i64 a0, .agg #[.int .i64 a1_0, .int .i64 a1_1, .int .i64 a1_2, .int .i64 a1_3], .agg #[.int .i64 ((rd_T39 t501 x16_2).f0), .int .i64 ((rd_T39 t501 x16_2).f1), .int .i64 ((rd_T39 t501 x16_2).f2)]] (by rfl) rfl rfl hA ?_
            with_reducible refine (spec_l04Move.calls k2 a0 a1_0 a1_1 a1_2 a1_3 ((rd_T39 t501 x16_2).f0) ((rd_T39 t501 x16_2).f1) ((rd_T39 t501 x16_2).f2) t506 t507 t508 false _ A18.out).mono ?_
            rintro e w48 ⟨rfl, hb⟩
            have HS4_ := (hb.cell (World.block_lt_of_cell? _ _ (hHeld.2.2.2.2.1))).trans (hHeld.2.2.2.2.1)
            have HS5_ := (hb.cell (World.block_lt_of_cell? _ _ (hHeld.2.2.2.2.2.1))).trans (hHeld.2.2.2.2.2.1)
            have HS6_ := (hb.cell (World.block_lt_of_cell? _ _ (hHeld.2.2.2.2.2.2))).trans (hHeld.2.2.2.2.2.2)
            refine ⟨_, rfl, ?_⟩
            replace HO_12 := Aside0.mk (Kd.R_below (rA HO_12) hb)
            replace HO_14 := Aside0.mk (Kd.R_below (rA HO_14) hb)
            replace BK496 := kB BK496 hb
            replace BK497 := kB BK497 hb
            replace HB := lB hb
            (try clear hb)
            (try clear hb2)
            (try clear hk)
            (try clear hi)
            refine hK.out _ _ ⟨cA BK496 0, cA BK496 1, cA BK496 2, cA BK496 3, HS4_, HS5_, HS6_⟩ (fun hHeld => ?_)
            clear hK K
            refine norm_ (a' := ?_) ?_ ?_
            rotate_left
            ·
             show Act.put _ (some 48) _ = _
             simp only [pA]
             rfl
            refine pure_ (i := 7) (N := some 41) (v := ?_) (a' := ?_) #[Y, Y, Y, Y, Y, Y, Y, Y, Z, Z, Z, Z, Z] rfl rfl (any_of HT_.out (by kernel_rfl)) (fun _ _ _ h => h) (Or.inl ⟨by rfl, ?_⟩) ?_ ?_
            rotate_left
            ·
             intro w'
             go_simp
             with_reducible rfl
            rotate_left
            ·
             simp only [pA]
             rfl
            refine pure_ (i := 8) (N := some 49) (v := ?_) (a' := ?_) #[Y, Y, Y, Y, Y, Y, Y, Y, Y, Z, Z, Z, Z] rfl rfl (any_of HT_.out (by kernel_rfl)) (fun _ _ _ h => h) (Or.inl ⟨by rfl, ?_⟩) ?_ ?_
            rotate_left
            ·
             intro w'
             go_simp
             with_reducible rfl
            rotate_left
            ·
             simp only [pA]
             rfl
            refine pure_ (i := 9) (N := some 50) (v := ?_) (a' := ?_) #[Y, Y, Y, Y, Y, Y, Y, Y, Y, Y, Z, Z, Z] rfl rfl (any_of HT_.out (by kernel_rfl)) (fun _ _ _ h => h) (Or.inl ⟨by rfl, ?_⟩) ?_ ?_
            rotate_left
            ·
             intro w'
             go_simp
             with_reducible rfl
            rotate_left
            ·
             simp only [pA]
             rfl
            refine one_ (i := 10) (N := some 17) #[Y, Y, Y, Y, Y, Y, Y, Y, Y, Y, Y, Z, Z] rfl rfl (one_of HT_.out (by kernel_rfl)) (by decide) (fun K hK => ?_)
            refine box_step ?hg (N := 17) ?hd (cs := #[.int .i64 0, .int .i64 0, .int .i64 0]) (t := 39) ?hr ?_; (case hd => rfl); (case hg => rfl); (case hr => first | (go_simp; done) | (go_simp; rfl))
            intro gb510 hg w49 hbox hb
            have HS4_ := (hb.cell (World.block_lt_of_cell? _ _ (hHeld.2.2.2.2.1))).trans (hHeld.2.2.2.2.1)
            have HS5_ := (hb.cell (World.block_lt_of_cell? _ _ (hHeld.2.2.2.2.2.1))).trans (hHeld.2.2.2.2.2.1)
            have HS6_ := (hb.cell (World.block_lt_of_cell? _ _ (hHeld.2.2.2.2.2.2))).trans (hHeld.2.2.2.2.2.2)
            have BK510 := Aside0.mk (hbox)
            have GW510 := sA hg
            have GE510 := sA hg
            have NB496_510 := nA hg BK496
            have NB510_496 := nB hg BK496
            have NB497_510 := nA hg BK497
            have NB510_497 := nB hg BK497
            replace HO_12 := Aside0.mk (Kd.R_below (Kd.R_elderB (rA HO_12) gb510 (Nat.le_of_eq hg.symm)) hb)
            replace HO_14 := Aside0.mk (Kd.R_below (Kd.R_elderB (rA HO_14) gb510 (Nat.le_of_eq hg.symm)) hb)
            replace BK496 := kB BK496 hb
            replace BK497 := kB BK497 hb
            replace HB := lB hb
            clear hb hbox hg
            refine hK.out _ _ ⟨cA BK496 0, cA BK496 1, cA BK496 2, cA BK496 3, HS4_, HS5_, HS6_⟩ (fun hHeld => ?_)
            clear hK K
            refine norm_ (a' := ?_) ?_ ?_
            rotate_left
            ·
             show Act.put _ (some 17) _ = _
             simp only [pA]
             rfl
            exact norm_ (by simp only [putAll, Act.put, List.setIfInBounds_toArray, List.set_cons_zero, List.set_cons_succ]) (hCont (gb510) _ ⟨hHeld, (by (with_reducible repeat (first | apply Kd.R_alloc | apply Kd.R_drewN | apply Kd.R_drew)); exact Kd.R_mono HO_12.out (fun _ hk => ⟨hk.1.1, ⟨hk.1.2, hk.2⟩⟩)), (by (with_reducible repeat (first | apply Kd.R_alloc | apply Kd.R_drewN | apply Kd.R_drew)); exact Kd.R_mono HO_14.out (fun _ hk => ⟨hk.1.1, ⟨hk.1.2, hk.2⟩⟩)), (bkA BK496), (bkA BK497), (bkA BK510), GW510.out, GE510.out, NB496_510.out, NB510_496.out, NB497_510.out, NB510_497.out, blA⟩)
           ·
            skip
            refine box_step ?hg (N := 17) ?hd (cs := #[.int .i64 0, .int .i64 0, .int .i64 0]) (t := 39) ?hr ?_; (case hd => rfl); (case hg => rfl); (case hr => first | (go_simp; done) | (go_simp; rfl))
            intro gb510 hg w48 hbox hb
            have HS4_ := (hb.cell (World.block_lt_of_cell? _ _ (hHeld.2.2.2.2.1))).trans (hHeld.2.2.2.2.1)
            have HS5_ := (hb.cell (World.block_lt_of_cell? _ _ (hHeld.2.2.2.2.2.1))).trans (hHeld.2.2.2.2.2.1)
            have HS6_ := (hb.cell (World.block_lt_of_cell? _ _ (hHeld.2.2.2.2.2.2))).trans (hHeld.2.2.2.2.2.2)
            have BK510 := Aside0.mk (hbox)
            have GW510 := sA hg
            have GE510 := sA hg
            have NB496_510 := nA hg BK496
            have NB510_496 := nB hg BK496
            have NB497_510 := nA hg BK497
            have NB510_497 := nB hg BK497
            replace HO_12 := Aside0.mk (Kd.R_below (Kd.R_elderB (rA HO_12) gb510 (Nat.le_of_eq hg.symm)) hb)
            replace HO_14 := Aside0.mk (Kd.R_below (Kd.R_elderB (rA HO_14) gb510 (Nat.le_of_eq hg.symm)) hb)
            replace BK496 := kB BK496 hb
            replace BK497 := kB BK497 hb
            replace HB := lB hb
            clear hb hbox hg
            refine hK.out _ _ ⟨cA BK496 0, cA BK496 1, cA BK496 2, cA BK496 3, HS4_, HS5_, HS6_⟩ (fun hHeld => ?_)
            clear hK K
            refine norm_ (a' := ?_) ?_ ?_
            rotate_left
            ·
             show Act.put _ (some 17) _ = _
             simp only [pA]
             rfl
            refine one_ (i := 6) (N := some 48) #[Y, Y, Y, Y, Y, Y, Y, Z, Z, Z, Y, Z, Z] rfl rfl (one_of HT_.out (by kernel_rfl)) (by decide) (fun K hK => ?_)
            refine goes_ Try.func62 (by kernel_rfl) rfl #[.int .i64 a0, .agg #[.int .i64 a1_0, .int .i64 a1_1, .int .i64 a1_2, .int .i64 a1_3], .agg #[.int .i64 ((rd_T39 t501 x16_2).f0), .int .i64 ((rd_T39 t501 x16_2).f1), .int .i64 ((rd_T39 t501 x16_2).f2)]] (by rfl) rfl rfl hA ?_
            with_reducible refine (spec_l04Move.calls k2 a0 a1_0 a1_1 a1_2 a1_3 ((rd_T39 t501 x16_2).f0) ((rd_T39 t501 x16_2).f1) ((rd_T39 t501 x16_2).f2) t506 t507 t508 false _ A18.out).mono ?_
            rintro e w49 ⟨rfl, hb⟩
            have HS4_ := (hb.cell (World.block_lt_of_cell? _ _ (hHeld.2.2.2.2.1))).trans (hHeld.2.2.2.2.1)
            have HS5_ := (hb.cell (World.block_lt_of_cell? _ _ (hHeld.2.2.2.2.2.1))).trans (hHeld.2.2.2.2.2.1)
            have HS6_ := (hb.cell (World.block_lt_of_cell? _ _ (hHeld.2.2.2.2.2.2))).trans (hHeld.2.2.2.2.2.2)
            refine ⟨_, rfl, ?_⟩
            replace HO_12 := Aside0.mk (Kd.R_below (rA HO_12) hb)
            replace HO_14 := Aside0.mk (Kd.R_below (rA HO_14) hb)
            replace BK496 := kB BK496 hb
            replace BK497 := kB BK497 hb
            replace BK510 := kB BK510 hb
            replace HB := lB hb
            (try clear hb)
            (try clear hb2)
            (try clear hk)
            (try clear hi)
            refine hK.out _ _ ⟨cA BK496 0, cA BK496 1, cA BK496 2, cA BK496 3, HS4_, HS5_, HS6_⟩ (fun hHeld => ?_)
            clear hK K
            refine norm_ (a' := ?_) ?_ ?_
            rotate_left
            ·
             show Act.put _ (some 48) _ = _
             simp only [pA]
             rfl
            refine pure_ (i := 7) (N := some 41) (v := ?_) (a' := ?_) #[Y, Y, Y, Y, Y, Y, Y, Y, Z, Z, Y, Z, Z] rfl rfl (any_of HT_.out (by kernel_rfl)) (fun _ _ _ h => h) (Or.inl ⟨by rfl, ?_⟩) ?_ ?_
            rotate_left
            ·
             intro w'
             go_simp
             with_reducible rfl
            rotate_left
            ·
             simp only [pA]
             rfl
            refine pure_ (i := 8) (N := some 49) (v := ?_) (a' := ?_) #[Y, Y, Y, Y, Y, Y, Y, Y, Y, Z, Y, Z, Z] rfl rfl (any_of HT_.out (by kernel_rfl)) (fun _ _ _ h => h) (Or.inl ⟨by rfl, ?_⟩) ?_ ?_
            rotate_left
            ·
             intro w'
             go_simp
             with_reducible rfl
            rotate_left
            ·
             simp only [pA]
             rfl
            refine pure_ (i := 9) (N := some 50) (v := ?_) (a' := ?_) #[Y, Y, Y, Y, Y, Y, Y, Y, Y, Y, Y, Z, Z] rfl rfl (any_of HT_.out (by kernel_rfl)) (fun _ _ _ h => h) (Or.inl ⟨by rfl, ?_⟩) ?_ ?_
            rotate_left
            ·
             intro w'
             go_simp
             with_reducible rfl
            rotate_left
            ·
             simp only [pA]
             rfl
            exact norm_ (by simp only [putAll, Act.put, List.setIfInBounds_toArray, List.set_cons_zero, List.set_cons_succ]) (hCont (gb510) _ ⟨hHeld, (by (with_reducible repeat (first | apply Kd.R_alloc | apply Kd.R_drewN | apply Kd.R_drew)); exact Kd.R_mono HO_12.out (fun _ hk => ⟨hk.1.1, ⟨hk.1.2, hk.2⟩⟩)), (by (with_reducible repeat (first | apply Kd.R_alloc | apply Kd.R_drewN | apply Kd.R_drew)); exact Kd.R_mono HO_14.out (fun _ hk => ⟨hk.1.1, ⟨hk.1.2, hk.2⟩⟩)), (bkA BK496), (bkA BK497), (bkA BK510), GW510.out, GE510.out, NB496_510.out, NB510_496.out, NB497_510.out, NB510_497.out, blA⟩)
          rintro gb510 w50 ⟨hS_, h0_, h1_, h2_, h3_, h4_, h5_, h6_, h7_, h8_, h9_, h10_, h11_⟩
          have BK510 := Aside0.mk h4_
          have GW510 := Aside0.mk h5_
          have GE510 := Aside0.mk h6_
          have NB496_510 := Aside0.mk h7_
          have NB510_496 := Aside0.mk h8_
          have NB497_510 := Aside0.mk h9_
          have NB510_497 := Aside0.mk h10_
          replace HO_12 := Aside0.mk h0_
          replace HO_14 := Aside0.mk h1_
          replace BK496 := Aside0.mk h2_
          replace BK497 := Aside0.mk h3_
          replace HB := Aside0.mk h11_
          clear h0_ h1_ h2_ h3_ h4_ h5_ h6_ h7_ h8_ h9_ h10_ h11_
          have hHeld : w50.cell? ⟨gb496, 0, none⟩ = some (.int .i64 a1_0) ∧ w50.cell? ⟨gb496, 1, none⟩ = some (.int .i64 a1_1) ∧ w50.cell? ⟨gb496, 2, none⟩ = some (.int .i64 a1_2) ∧ w50.cell? ⟨gb496, 3, none⟩ = some (.int .i64 a1_3) ∧ w50.cell? (ad505.add ((x16_2).toNat * 3)) = some (.int .i64 ((rd_T39 t501 x16_2).f0)) ∧ w50.cell? ⟨(ad505.add ((x16_2).toNat * 3)).block, (ad505.add ((x16_2).toNat * 3)).off + 1, none⟩ = some (.int .i64 ((rd_T39 t501 x16_2).f1)) ∧ w50.cell? ⟨(ad505.add ((x16_2).toNat * 3)).block, (ad505.add ((x16_2).toNat * 3)).off + 2, none⟩ = some (.int .i64 ((rd_T39 t501 x16_2).f2)) := hS_
          refine norm_ (a' := ?_) ?_ ?_
          rotate_left
          ·
           simp only [putAll, Act.put, List.setIfInBounds_toArray, List.set_cons_zero, List.set_cons_succ]
           rfl
          refine one_ (i := 11) (N := none) #[Y, Y, Y, Y, Y, Y, Y, Y, Y, Y, Y, Y, Z] rfl rfl (one_of HT_.out (by kernel_rfl)) (by decide) (fun K hK => ?_)
          have hs51 : w50.cell? ⟨gb510, 0, none⟩ = some (.int .i64 0) := cA BK510 0
          have hfs51 := blk_frozen BK510.out 0
          have hns51_0 := NB496_510.out
          have hns51_1 := NB497_510.out
          have hms51_0 := NB510_496.out
          have hms51_1 := NB510_497.out
          have hs52 : w50.cell? ⟨gb510, 1, none⟩ = some (.int .i64 0) := cA BK510 1
          have hfs52 := blk_frozen BK510.out 1
          have hns52_0 := NB496_510.out
          have hns52_1 := NB497_510.out
          have hms52_0 := NB510_496.out
          have hms52_1 := NB510_497.out
          have hs53 : w50.cell? ⟨gb510, 2, none⟩ = some (.int .i64 0) := cA BK510 2
          have hfs53 := blk_frozen BK510.out 2
          have hns53_0 := NB496_510.out
          have hns53_1 := NB497_510.out
          have hms53_0 := NB510_496.out
          have hms53_1 := NB510_497.out
          refine skip_ (w1 := ?_) (by rfl) rfl ?_ ?_
          rotate_left
          ·
           go_simp
           rfl
          refine hK.out _ _ ⟨((cell_far (p := ⟨gb510, _, none⟩) NB496_510.out _).trans (((cell_far (p := ⟨gb510, _, none⟩) NB496_510.out _).trans (((cell_far (p := ⟨gb510, _, none⟩) NB496_510.out _).trans (hHeld.1)))))), ((cell_far (p := ⟨gb510, _, none⟩) NB496_510.out _).trans (((cell_far (p := ⟨gb510, _, none⟩) NB496_510.out _).trans (((cell_far (p := ⟨gb510, _, none⟩) NB496_510.out _).trans (hHeld.2.1)))))), ((cell_far (p := ⟨gb510, _, none⟩) NB496_510.out _).trans (((cell_far (p := ⟨gb510, _, none⟩) NB496_510.out _).trans (((cell_far (p := ⟨gb510, _, none⟩) NB496_510.out _).trans (hHeld.2.2.1)))))), ((cell_far (p := ⟨gb510, _, none⟩) NB496_510.out _).trans (((cell_far (p := ⟨gb510, _, none⟩) NB496_510.out _).trans (((cell_far (p := ⟨gb510, _, none⟩) NB496_510.out _).trans (hHeld.2.2.2.1)))))), ((cell_far (p := ⟨gb510, _, none⟩) (fB (Kd.own_blk (Kd.R_away HO_14.out (fun _ hk => hk.2.2)))) _).trans (((cell_far (p := ⟨gb510, _, none⟩) (fB (Kd.own_blk (Kd.R_away HO_14.out (fun _ hk => hk.2.2)))) _).trans (((cell_far (p := ⟨gb510, _, none⟩) (fB (Kd.own_blk (Kd.R_away HO_14.out (fun _ hk => hk.2.2)))) _).trans (hHeld.2.2.2.2.1)))))), ((cell_far (p := ⟨gb510, _, none⟩) (fB (Kd.own_blk (Kd.R_away HO_14.out (fun _ hk => hk.2.2)))) _).trans (((cell_far (p := ⟨gb510, _, none⟩) (fB (Kd.own_blk (Kd.R_away HO_14.out (fun _ hk => hk.2.2)))) _).trans (((cell_far (p := ⟨gb510, _, none⟩) (fB (Kd.own_blk (Kd.R_away HO_14.out (fun _ hk => hk.2.2)))) _).trans (hHeld.2.2.2.2.2.1)))))), ((cell_far (p := ⟨gb510, _, none⟩) (fB (Kd.own_blk (Kd.R_away HO_14.out (fun _ hk => hk.2.2)))) _).trans (((cell_far (p := ⟨gb510, _, none⟩) (fB (Kd.own_blk (Kd.R_away HO_14.out (fun _ hk => hk.2.2)))) _).trans (((cell_far (p := ⟨gb510, _, none⟩) (fB (Kd.own_blk (Kd.R_away HO_14.out (fun _ hk => hk.2.2)))) _).trans (hHeld.2.2.2.2.2.2))))))⟩ (fun hHeld => ?_)
          clear hK K
          refine pure_ (i := 12) (N := some 18) (v := ?_) (a' := ?_) #[Y, Y, Y, Y, Y, Y, Y, Y, Y, Y, Y, Y, Y] rfl rfl (any_of HT_.out (by kernel_rfl)) (fun _ _ _ h => h) (Or.inl ⟨by rfl, ?_⟩) ?_ ?_
          rotate_left
          ·
           intro w'
           go_simp
           with_reducible rfl
          rotate_left
          ·
           simp only [pA]
           rfl
          refine done_ (done_of HT_.out (by kernel_rfl)) ?_
          try go_wp2
          go_ret2
          exact ⟨_, by first | rfl | (simp [errW_none, errW_some] <;> rfl) | (simp [*, errW_none, errW_some] <;> rfl), by first | exact Kd.R_nil _ _ _ _ _ | exact Kd.N_nil _ _ _ _ _ | exact Kd.V_nil _ _ _ _ _ | exact Kd.Q_nil _ _ _ _ _ | exact Kd.S_nil _ _ _ _ _, blA⟩
        ·
         rw [if_neg c17] at H
         exact absurd H (by simp)
       ·
        rw [if_neg c16] at H
        have c16b0 := decide_eq_false c16
        clear c16
        have H' := Aside0.mk H
        clear H
        obtain ⟨Ao54, co54, eo54⟩ := Kd.R_slice HO_14.out
        subst eo54
        go_wp2
        go_roundg k2
        case measure => have := HK1.out; have := HK2.out; omega
        case rel => exact ⟨(x12_2), (wrap64 (x13_1 + 1)), hB, H', ⟨by have := HK1.out; have := HK2.out; omega⟩, ⟨by (with_reducible repeat (first | apply Kd.R_alloc | apply Kd.R_drewN | apply Kd.R_drew)); exact Kd.R_mono HO_12.out (fun _ hk => hk.2)⟩, ⟨bkA BK496⟩, ⟨bkA BK497⟩, ⟨blA⟩⟩
    ·
     rw [if_neg c12] at H
     have c12b0 : (t504 == 0) = false := beq_eq_false_iff_ne.mpr c12
     have c12b1 : (t504 != 0) = true := bne_iff_ne.mpr c12
     simp only [Option.some.injEq, Prod.mk.injEq] at H
     obtain ⟨rfl, rfl⟩ := H
     have hnb55 := NB497_496.out
     have hnc55 := NB496_497.out
     have hcz56_0 : wr.cell? ⟨gb497, 0, none⟩ = some (.int .i64 a2_0) := cA BK497 0
     have hcz56_1 : wr.cell? ⟨gb497, 1, none⟩ = some (.int .i64 a2_1) := cA BK497 1
     have hcz56_2 : wr.cell? ⟨gb497, 2, none⟩ = some (.int .i64 a2_2) := cA BK497 2
     have hfz56_0 := blk_frozen BK497.out 0
     have hfz56_1 := blk_frozen BK497.out 1
     have hfz56_2 := blk_frozen BK497.out 2
     go_wp2_with (first | ((with_reducible refine gate_callee (f := 61) rfl ?_); refine goesL_ (some 29) rfl rfl Try.func61 (by kernel_rfl) rfl #[.int .i64 a0, .agg #[.int .i64 a2_0, .int .i64 a2_1, .int .i64 a2_2], .int .i64 x13_1] rfl hA ?_; (with_reducible refine (spec_SphereAround.calls k1 a0 a2_0 a2_1 a2_2 x13_1 t501 t504 _ A11.out).mono ?_); rintro e w57 ⟨v502, rfl, ho0, hb⟩; refine ⟨_, rfl, ?_⟩; have n0_ := Aside0.mk (Kd.R_elder' (rA HO_12) (Kd.R_base ho0) hb); have n1_ := Aside0.mk (Kd.R_lower (Kd.R_newB (Kd.R_new' ho0 (Kd.R_lt (rA HO_12))) (bkA BK497)) (below_size blA)); have n2_ := kB BK496 hb; have n3_ := kB BK497 hb; have n4_ := lB hb; clear HO_12; clear BK496; clear BK497; clear HB; have HO_12 := n0_; have HO503 := n1_; have BK496 := n2_; have BK497 := n3_; have HB := n4_; clear n0_ n1_ n2_ n3_ n4_; (try clear hb); (try clear hb2); (try clear hk); (try clear hi); (try clear ho0)))
     go_ret2
     exact ⟨_, by first | rfl | (simp [errW_none, errW_some] <;> rfl) | (simp [*, errW_none, errW_some] <;> rfl), by first | exact Kd.R_nil _ _ _ _ _ | exact Kd.N_nil _ _ _ _ _ | exact Kd.V_nil _ _ _ _ _ | exact Kd.Q_nil _ _ _ _ _ | exact Kd.S_nil _ _ _ _ _, blA⟩
   ·
    rw [if_neg c10] at H
    have c10b0 := decide_eq_false c10
    clear c10
    simp only [Option.some.injEq, Prod.mk.injEq] at H
    obtain ⟨rfl, rfl⟩ := H
    go_wp2
    go_ret2
    exact ⟨_, by first | rfl | (simp [errW_none, errW_some] <;> rfl) | (simp [*, errW_none, errW_some] <;> rfl), by (with_reducible repeat (first | apply Kd.R_alloc | apply Kd.R_drewN | apply Kd.R_drew)); exact Kd.R_mono HO_12.out (fun _ hk => trivial), blA⟩
end Go.Proofs.Ytccpccnnbacgjaa.PAll
