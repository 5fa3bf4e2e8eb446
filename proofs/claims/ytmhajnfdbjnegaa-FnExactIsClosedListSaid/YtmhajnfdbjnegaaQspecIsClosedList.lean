-- turned for this claim out of the kit's print: the same functions, packed anew
import Derived.Test.YtmhajnfdbjnegaaQx
import Derived.Test.YtmhajnfdbjnegaaQLtoMatrixS
import Derived.Test.YtmhajnfdbjnegaaQimplMatrix76
import Derived.Test.YtmhajnfdbjnegaaQimplproduct
import Derived.Test.YtmhajnfdbjnegaaQspecl04Reduce
namespace Go.Proofs.Ytmhajnfdbjnegaa.PAll
open Go.RowKit Go.Proofs.YtmhajnfdbjnegaaW.PrintWords Go.Proofs.YtmhajnfdbjnegaaW.PrintLast Go.Proofs.YtmhajnfdbjnegaaW.PrintMore
attribute [local go_sem] Go.Proofs.Ytmhajnfdbjnegaa.Aux.setCell_drewN Go.Proofs.Ytmhajnfdbjnegaa.Aux.isSome_setCell max2_int min2_int max_two min_two max_three min_three max_four min_four   -- for this text's walks alone
set_option linter.unusedVariables false
set_option linter.unusedSimpArgs false
/-! ### spec_IsClosedList: function 36 -/
mutual
def spec_IsClosedList.l0 : Nat → List (S25) → List (S25) → Int → Option (Bool × Int)
  | 0, _, _, _ => none
  | k + 1, x0, x5, x6 => if x6 < (x0.length : Int) then (if 0 ≤ x6 then ((spec_l04Reduce.f k ((rd_T25 x0 x6).f0.f0) ((rd_T25 x0 x6).f0.f1) ((rd_T25 x0 x6).f1.f0) ((rd_T25 x0 x6).f1.f1)).bind fun bt511 => (if x5.length < 4398046511104 then (spec_IsClosedList.l0 k x0 (x5 ++ [(⟨(⟨bt511.1, bt511.2.1⟩ : S22), (⟨bt511.2.2.1, bt511.2.2.2.1⟩ : S22)⟩ : S25)]) (wrap64 (x6 + 1))) else (none))) else (none)) else (spec_IsClosedList.l1 k x0 x5 0)
def spec_IsClosedList.l1 : Nat → List (S25) → List (S25) → Int → Option (Bool × Int)
  | 0, _, _, _ => none
  | k + 1, x0, x5, x9 => if x9 < (x0.length : Int) then (spec_IsClosedList.l2 k x0 x5 x9 0) else (some (true, 0))
def spec_IsClosedList.l2 : Nat → List (S25) → List (S25) → Int → Int → Option (Bool × Int)
  | 0, _, _, _, _ => none
  | k + 1, x0, x5, x9, x10 => if x10 < (x0.length : Int) then (if 0 ≤ x9 then (if x9 < (x0.length : Int) then (if 0 ≤ x10 then ((spec_l04Times.f k ((rd_T25 x0 x9).f0.f0) ((rd_T25 x0 x9).f0.f1) ((rd_T25 x0 x9).f1.f0) ((rd_T25 x0 x9).f1.f1) ((rd_T25 x0 x10).f0.f0) ((rd_T25 x0 x10).f0.f1) ((rd_T25 x0 x10).f1.f0) ((rd_T25 x0 x10).f1.f1)).bind fun bt522 => (if bt522.2.2.2.2 = true then ((spec_l06Matrix.f k x5 bt522.1 bt522.2.1 bt522.2.2.1 bt522.2.2.2.1).bind fun t528 => (if t528 < 0 then (some (false, 0)) else (spec_IsClosedList.l2 k x0 x5 x9 (wrap64 (x10 + 1))))) else (some (false, 0)))) else (none)) else (none)) else (none)) else (spec_IsClosedList.l1 k x0 x5 (wrap64 (x9 + 1)))
end
def spec_IsClosedList.f (k : Nat) (l0 : List (S25)) : Option (Bool × Int) := (spec_l06Movers.f k l0 48).bind fun t506 => (if t506 = 0 then (spec_IsClosedList.l0 k l0 (([] : List (S25))) 0) else (some (false, t506)))
theorem spec_IsClosedList.mono_l : ∀ k, (∀ y0 y1 y2, LeO (spec_IsClosedList.l0 k y0 y1 y2) (spec_IsClosedList.l0 (k + 1) y0 y1 y2)) ∧ (∀ y0 y1 y2, LeO (spec_IsClosedList.l1 k y0 y1 y2) (spec_IsClosedList.l1 (k + 1) y0 y1 y2)) ∧ (∀ y0 y1 y2 y3, LeO (spec_IsClosedList.l2 k y0 y1 y2 y3) (spec_IsClosedList.l2 (k + 1) y0 y1 y2 y3))
  | 0 => ⟨fun _ _ _ r h => by simp [spec_IsClosedList.l0] at h, fun _ _ _ r h => by simp [spec_IsClosedList.l1] at h, fun _ _ _ _ r h => by simp [spec_IsClosedList.l2] at h⟩
  | k + 1 => by
    obtain ⟨ih0, ih1, ih2⟩ := spec_IsClosedList.mono_l k
    refine ⟨?_, ?_, ?_⟩
    · intro y0 y1 y2
      unfold spec_IsClosedList.l0
      repeat' first
      | (with_reducible exact ih0 _ _ _)
      | (with_reducible exact ih1 _ _ _)
      | (with_reducible exact ih2 _ _ _ _)
      | (with_reducible exact spec_l04Reduce.mono _ _ _ _ _)
      | (with_reducible exact spec_l04Times.mono _ _ _ _ _ _ _ _ _)
      | (with_reducible exact spec_l06Matrix.mono _ _ _ _ _ _)
      | (with_reducible exact spec_l06Movers.mono _ _ _)
      | (with_reducible exact LeO.refl _)
      | (with_reducible exact LeO.none _)
      | (with_reducible refine LeO.ite ?_ ?_)
      | (with_reducible refine LeO.bind ?_ (fun _ => ?_))
      | exact ih0 _ _ _
      | exact ih1 _ _ _
      | exact ih2 _ _ _ _
      | exact spec_l04Reduce.mono _ _ _ _ _
      | exact spec_l04Times.mono _ _ _ _ _ _ _ _ _
      | exact spec_l06Matrix.mono _ _ _ _ _ _
      | exact spec_l06Movers.mono _ _ _
      | exact LeO.none _
      | refine LeO.ite ?_ ?_
      | refine LeO.bind ?_ (fun _ => ?_)
    · intro y0 y1 y2
      unfold spec_IsClosedList.l1
      repeat' first
      | (with_reducible exact ih0 _ _ _)
      | (with_reducible exact ih1 _ _ _)
      | (with_reducible exact ih2 _ _ _ _)
      | (with_reducible exact spec_l04Reduce.mono _ _ _ _ _)
      | (with_reducible exact spec_l04Times.mono _ _ _ _ _ _ _ _ _)
      | (with_reducible exact spec_l06Matrix.mono _ _ _ _ _ _)
      | (with_reducible exact spec_l06Movers.mono _ _ _)
      | (with_reducible exact LeO.refl _)
      | (with_reducible exact LeO.none _)
      | (with_reducible refine LeO.ite ?_ ?_)
      | (with_reducible refine LeO.bind ?_ (fun _ => ?_))
      | exact ih0 _ _ _
      | exact ih1 _ _ _
      | exact ih2 _ _ _ _
      | exact spec_l04Reduce.mono _ _ _ _ _
      | exact spec_l04Times.mono _ _ _ _ _ _ _ _ _
      | exact spec_l06Matrix.mono _ _ _ _ _ _
      | exact spec_l06Movers.mono _ _ _
      | exact LeO.none _
      | refine LeO.ite ?_ ?_
      | refine LeO.bind ?_ (fun _ => ?_)
    · intro y0 y1 y2 y3
      unfold spec_IsClosedList.l2
      repeat' first
      | (with_reducible exact ih0 _ _ _)
      | (with_reducible exact ih1 _ _ _)
      | (with_reducible exact ih2 _ _ _ _)
      | (with_reducible exact spec_l04Reduce.mono _ _ _ _ _)
      | (with_reducible exact spec_l04Times.mono _ _ _ _ _ _ _ _ _)
      | (with_reducible exact spec_l06Matrix.mono _ _ _ _ _ _)
      | (with_reducible exact spec_l06Movers.mono _ _ _)
      | (with_reducible exact LeO.refl _)
      | (with_reducible exact LeO.none _)
      | (with_reducible refine LeO.ite ?_ ?_)
      | (with_reducible refine LeO.bind ?_ (fun _ => ?_))
      | exact ih0 _ _ _
      | exact ih1 _ _ _
      | exact ih2 _ _ _ _
      | exact spec_l04Reduce.mono _ _ _ _ _
      | exact spec_l04Times.mono _ _ _ _ _ _ _ _ _
      | exact spec_l06Matrix.mono _ _ _ _ _ _
      | exact spec_l06Movers.mono _ _ _
      | exact LeO.none _
      | refine LeO.ite ?_ ?_
      | refine LeO.bind ?_ (fun _ => ?_)
theorem spec_IsClosedList.mono : ∀ a0 k, LeO (spec_IsClosedList.f k a0) (spec_IsClosedList.f (k + 1) a0) := by
  intro a0 k
  obtain ⟨ih0, ih1, ih2⟩ := spec_IsClosedList.mono_l k
  unfold spec_IsClosedList.f
  repeat' first
      | (with_reducible exact ih0 _ _ _)
      | (with_reducible exact ih1 _ _ _)
      | (with_reducible exact ih2 _ _ _ _)
      | (with_reducible exact spec_l04Reduce.mono _ _ _ _ _)
      | (with_reducible exact spec_l04Times.mono _ _ _ _ _ _ _ _ _)
      | (with_reducible exact spec_l06Matrix.mono _ _ _ _ _ _)
      | (with_reducible exact spec_l06Movers.mono _ _ _)
      | (with_reducible exact LeO.refl _)
      | (with_reducible exact LeO.none _)
      | (with_reducible refine LeO.ite ?_ ?_)
      | (with_reducible refine LeO.bind ?_ (fun _ => ?_))
      | exact ih0 _ _ _
      | exact ih1 _ _ _
      | exact ih2 _ _ _ _
      | exact spec_l04Reduce.mono _ _ _ _ _
      | exact spec_l04Times.mono _ _ _ _ _ _ _ _ _
      | exact spec_l06Matrix.mono _ _ _ _ _ _
      | exact spec_l06Movers.mono _ _ _
      | exact LeO.none _
      | refine LeO.ite ?_ ?_
      | refine LeO.bind ?_ (fun _ => ?_)
def spec_IsClosedList.T16 : Bool × List (List Nat × List Nat) := (true, [([], []), ([], []), ([0, 1], [0, 1]), ([2], [2]), ([], []), ([], []), ([4, 5], [4, 5]), ([6], [6]), ([3, 7], [3, 7]), ([8], [8]), ([9], [9]), ([9], [9]), ([], []), ([12, 10, 8, 0, 1, 2, 3, 4, 5, 6, 7, 8, 9, 10, 12], [10, 12]), ([11, 13, 0, 1, 2, 3, 4, 5, 6, 7, 8, 9, 10, 11, 12, 13], [11])])
def spec_IsClosedList.B16 : List Nat := [0, 0, 3, 7, 0, 0, 48, 112, 255, 511, 1023, 1023, 0, 6143, 16383]
theorem spec_IsClosedList.tab16 : rtab .any (opsOf Try.f36 16) = spec_IsClosedList.T16 := by kernel_rfl
theorem spec_IsClosedList.bits16 : waitsOk spec_IsClosedList.T16.2 spec_IsClosedList.B16 = true := by kernel_rfl
set_option maxHeartbeats 8000000 in
set_option maxRecDepth 100000 in
theorem spec_IsClosedList.calls (k : Nat) (A0 : Option Addr) (c0 : Nat) (l0 : List (S25)) (r1 : Bool) (r2 : Int) (w : World) (hr0 : Kd.C k25 w A0 l0.length l0) (hc0 : l0.length ≤ c0) (h : spec_IsClosedList.f k l0 = some (r1, r2)) :
    Calls Try.prog 36 #[.slice A0 l0.length c0] w fun e w' => e = .returned (.tuple #[.bool r1, .int .i64 r2]) ∧ Below w.heap.size w w' := by
  have hu25 := Try.underlying25
  have HR0 := Aside0.mk hr0
  have HC0 := Aside0.mk hc0
  clear hr0 hc0
  have HB := Aside0.mk (Below.refl w.heap.size w)
  have H : ((spec_l06Movers.f k l0 48).bind fun t506 => (if t506 = 0 then (spec_IsClosedList.l0 k l0 (([] : List (S25))) 0) else (some (false, t506)))) = some (r1, r2) := h
  clear h
  replace H := Option.bind_eq_some_iff.mp H
  obtain ⟨t506, A20, H⟩ := H
  replace H : (if t506 = 0 then (spec_IsClosedList.l0 k l0 (([] : List (S25))) 0) else (some (false, t506))) = some (r1, r2) := H
  have A2 := Aside0.mk A20
  clear A20
  by_cases c3 : t506 = 0
  · rw [if_pos c3] at H
    have c3b0 : (t506 == 0) = true := beq_iff_eq.mpr c3
    have c3b1 : (t506 != 0) = false := bne_eq_false_iff_eq.mpr c3
    clear c3
    obtain ⟨y507, hy507⟩ : ∃ y_ : List (S25), y_ = (([] : List (S25))) := ⟨_, rfl⟩
    replace H : (spec_IsClosedList.l0 k l0 y507 0) = some (r1, r2) := by first | (rw [hy507]; with_reducible exact H) | (have H2_ := (Option.bind_some _ _).symm.trans H; rw [hy507]; with_reducible exact H2_) | (have H2_ := (Option.bind_some _ _).symm.trans H; with_reducible exact H2_) | with_reducible exact H | (rw [hy507]; exact H) | exact H
    have Ny507 := Aside0.mk hy507
    clear hy507
    have H' := Aside0.mk H
    clear H
    go_enter Try.func36, Try.ntmps36
    go_wp2_with (first | ((with_reducible refine gate_callee (f := 74) rfl ?_); refine goesL_ (some 14) rfl rfl Try.func74 (by kernel_rfl) rfl #[.slice A0 l0.length c0, .int .i64 48] rfl (by (try simp only [List.map_toArray, List.map_cons, List.map_nil]); first | done | rfl | (simp only [List.length_drop, List.length_take]; rfl)) ?_; (with_reducible refine (spec_l06Movers.calls k _ _ l0 48 t506 _ ?side1 ?side2 A2.out).mono ?_); (case side1 => repeat (first | exact HR0.out | (with_reducible refine Kd.C_alloc ?_ _) | (with_reducible refine Kd.C_drewN ?_ _) | (with_reducible refine Kd.C_drew ?_))); (case side2 => exact HC0.out); rintro e w4 ⟨rfl, hb⟩; refine ⟨_, rfl, ?_⟩; have n0_ := Aside0.mk (below_step blA hb); clear HB; have HB := n0_; clear n0_; (try clear hb); (try clear hb2); (try clear hk); (try clear hi)) | ((with_reducible refine gate_dst (N := 18) rfl ?_); refine Kd.R_lit k25 _ 25 ?hg (N := 18) ?hd (xs := ([] : List (S25))) (inner := []) (ok := fun _ => True) (okp := fun _ => True) ?hr ?hp (fun _ hk => hk) trivial (Below.refl _ _) (Nat.le_refl _) (by simp) ?_; (case hd => rfl); (case hg => rfl); (case hr => first | (go_simp; done) | (go_simp; rfl)); (case hp => exact (Reps.none _ _)); intro v508 w5 ho6 hb hg_ hnew_; clear hg_ hnew_; (first | rw [← Ny507.out] at ho6 | (simp only [Int.reduceToNat] at ho6; rw [← Ny507.out] at ho6)); have n0_ := Aside0.mk (Kd.R_lower ho6 (below_size blA)); have n1_ := Aside0.mk (below_step blA hb); clear HB; have HO509 := n0_; have HB := n1_; clear n0_ n1_; clear hb ho6))
    go_loopg [5, 6] k (fun kq v5 v6 w' => ∃ (x5_1 : List (S25)) (x6_1 : Int), v6 = .int .i64 x6_1 ∧ Aside0 (spec_IsClosedList.l0 kq l0 x5_1 x6_1 = some (r1, r2)) ∧ Aside0 (kq ≤ k) ∧ Aside0 (Kd.R k25 25 w' w.heap.size (fun _ => True) v5 x5_1) ∧ Aside0 (Below w.heap.size w w'))
    case atStart => exact ⟨(y507), (0), (by first | rfl | (simp; done) | (simp [*]; done)), H', ⟨Nat.le_refl _⟩, ⟨by (with_reducible repeat (first | apply Kd.R_alloc | apply Kd.R_drewN | apply Kd.R_drew)); exact HO509.out⟩, ⟨blA⟩⟩
    case round =>
      clear H'
      try clear p2
      try clear c3
      try clear c3b0
      try clear c3b1
      obtain ⟨x5_1, x6_1, rfl, HA, HK1, HO_5, HB⟩ := hrel
      cases gk with
      | zero => exact absurd HA.out (by simp [spec_IsClosedList.l0])
      | succ k1 =>
        have H := HA.out
        clear HA
        simp only [spec_IsClosedList.l0] at H
        by_cases c7 : x6_1 < (l0.length : Int)
        · rw [if_pos c7] at H
          have c7b0 : decide (x6_1 < (l0.length : Int)) = true := decide_eq_true c7
          clear c7
          by_cases c8 : 0 ≤ x6_1
          · rw [if_pos c8] at H
            have c8b0 : decide (0 ≤ x6_1) = true := decide_eq_true c8
            clear c8
            replace H := Option.bind_eq_some_iff.mp H
            obtain ⟨⟨t511, t512, t513, t514, t515⟩, A90, H⟩ := H
            replace H : (if x5_1.length < 4398046511104 then (spec_IsClosedList.l0 k1 l0 (x5_1 ++ [(⟨(⟨t511, t512⟩ : S22), (⟨t513, t514⟩ : S22)⟩ : S25)]) (wrap64 (x6_1 + 1))) else (none)) = some (r1, r2) := H
            have A9 := Aside0.mk A90
            clear A90
            by_cases c10 : x5_1.length < 4398046511104
            · rw [if_pos c10] at H
              have LMc10 := Aside0.mk c10
              clear c10
              obtain ⟨y517, hy517⟩ : ∃ y_ : List (S25), y_ = (x5_1 ++ [(⟨(⟨t511, t512⟩ : S22), (⟨t513, t514⟩ : S22)⟩ : S25)]) := ⟨_, rfl⟩
              replace H : (spec_IsClosedList.l0 k1 l0 y517 (wrap64 (x6_1 + 1))) = some (r1, r2) := by first | (rw [hy517]; with_reducible exact H) | (have H2_ := (Option.bind_some _ _).symm.trans H; rw [hy517]; with_reducible exact H2_) | (have H2_ := (Option.bind_some _ _).symm.trans H; with_reducible exact H2_) | with_reducible exact H | (rw [hy517]; exact H) | exact H
              have Ny517 := Aside0.mk hy517
              clear hy517
              have H' := Aside0.mk H
              clear H
              have p510 : 0 ≤ (x6_1 : Int) := of_decide_eq_true (by first | (with_reducible assumption) | assumption)
              have q510 : x6_1 < (l0.length : Int) := of_decide_eq_true (by first | (with_reducible assumption) | assumption)
              obtain ⟨ad510, e510, hx510_0, hx510_1, hx510_2, hx510_3⟩ := at_T25 HR0.out x6_1 p510 q510
              cases e510
              replace hx510_0 := (HB.out.cell (World.block_lt_of_cell? w _ hx510_0)).trans hx510_0
              replace hx510_1 := (HB.out.cell (World.block_lt_of_cell? w _ hx510_1)).trans hx510_1
              replace hx510_2 := (HB.out.cell (World.block_lt_of_cell? w _ hx510_2)).trans hx510_2
              replace hx510_3 := (HB.out.cell (World.block_lt_of_cell? w _ hx510_3)).trans hx510_3
              replace p510 := eq_true p510
              replace q510 := eq_true q510
              go_wp2_with (first | ((with_reducible refine gate_callee (f := 56) rfl ?_); refine goesL_ (some 30) rfl rfl Try.func56 (by kernel_rfl) rfl #[.agg #[.int .i64 ((rd_T25 l0 x6_1).f0.f0), .int .i64 ((rd_T25 l0 x6_1).f0.f1), .int .i64 ((rd_T25 l0 x6_1).f1.f0), .int .i64 ((rd_T25 l0 x6_1).f1.f1)]] rfl (by (try simp only [List.map_toArray, List.map_cons, List.map_nil]); first | done | rfl | (simp only [List.length_drop, List.length_take]; rfl)) ?_; (with_reducible refine (spec_l04Reduce.calls k1 ((rd_T25 l0 x6_1).f0.f0) ((rd_T25 l0 x6_1).f0.f1) ((rd_T25 l0 x6_1).f1.f0) ((rd_T25 l0 x6_1).f1.f1) t511 t512 t513 t514 t515 _ A9.out).mono ?_); rintro e w11 ⟨rfl, hb⟩; refine ⟨_, rfl, ?_⟩; have n0_ := Aside0.mk (Kd.R_below (by (with_reducible repeat (first | apply Kd.R_alloc | apply Kd.R_drewN | apply Kd.R_drew)); exact HO_5.out) hb); have n1_ := Aside0.mk (below_step blA hb); clear HO_5; clear HB; have HO_5 := n0_; have HB := n1_; clear n0_ n1_; (try clear hb); (try clear hb2); (try clear hk); (try clear hi)) | ((with_reducible refine gate_dst (N := 7) rfl ?_); refine box_event ?hg (N := 7) ?hd (cs := #[.int .i64 0, .int .i64 0, .int .i64 0, .int .i64 0]) (t := 25) ?hr ?_; (case hd => rfl); (case hg => rfl); (case hr => first | (go_simp; done) | (go_simp; rfl)); intro gb516 hg w12 hbox hb; have n0_ := Aside0.mk (Kd.R_below (Kd.R_elderB (by (with_reducible repeat (first | apply Kd.R_alloc | apply Kd.R_drewN | apply Kd.R_drew)); exact HO_5.out) gb516 (Nat.le_of_eq hg.symm)) hb); have n1_ := Aside0.mk (below_step blA hb); have n2_ := Aside0.mk (hbox); have n3_ := Aside0.mk (szA hg blA); have n4_ := Aside0.mk (szA hg blA); clear HO_5; clear HB; have HO_5 := n0_; have HB := n1_; have BK516 := n2_; have GW516 := n3_; have GE516 := n4_; clear n0_ n1_ n2_ n3_ n4_; clear hb hbox hg; have hcz13_0 : w12.cell? ⟨gb516, 0, none⟩ = some (.int .i64 0) := (blk_cell BK516.out 0).trans rfl; have hcz13_1 : w12.cell? ⟨gb516, 1, none⟩ = some (.int .i64 0) := (blk_cell BK516.out 1).trans rfl; have hcz13_2 : w12.cell? ⟨gb516, 2, none⟩ = some (.int .i64 0) := (blk_cell BK516.out 2).trans rfl; have hcz13_3 : w12.cell? ⟨gb516, 3, none⟩ = some (.int .i64 0) := (blk_cell BK516.out 3).trans rfl; have hfz13_0 := blk_frozen BK516.out 0; have hfz13_1 := blk_frozen BK516.out 1; have hfz13_2 := blk_frozen BK516.out 2; have hfz13_3 := blk_frozen BK516.out 3) | ((with_reducible refine gate_builtin (b := .append) (xs := #[.tmp 33, .tmp 35]) rfl ?_); at_builtin; refine Kd.R_append k25 (w0 := w) w.heap.size rfl (.tmp 33) (.tmp 35) 49 25 (.agg #[(.int .i64 0), (.int .i64 0), (.int .i64 0), (.int .i64 0)]) 32 rfl Try.underlying49 info25 rfl (by decide) (by omega) u5 x5_1 (⟨(⟨t511, t512⟩ : S22), (⟨t513, t514⟩ : S22)⟩ : S25) [.int .i64 t511, .int .i64 t512, .int .i64 t513, .int .i64 t514] (fun k_ => k_ ≠ gb516) (fun _ => False) rfl (by first | (go_simp; done) | (go_simp; rfl)) ?aP (fun _ hk => hk.elim) ?aF ?aO ?aB ?aS ?aL ?_; (case aP => exact k25_mkM _ _ _ (⟨(⟨t511, t512⟩ : S22), (⟨t513, t514⟩ : S22)⟩ : S25)); (case aB => exact blA); (case aF => exact (fun k_ hk => Kd.freshB (g := gb516) (o := .cells #[.int .i64 t511, .int .i64 t512, .int .i64 t513, .int .i64 t514] 25 (0, 0)) (by (with_reducible repeat (first | refine blk_drewN ?_ _ | refine blk_drew ?_ | refine blk_alloc ?_ _)); refine blk_put (cs := #[.int .i64 t511, .int .i64 t512, .int .i64 t513, .int .i64 0]) ?_ 3 _ rfl; (with_reducible repeat (first | refine blk_drewN ?_ _ | refine blk_drew ?_ | refine blk_alloc ?_ _)); refine blk_put (cs := #[.int .i64 t511, .int .i64 t512, .int .i64 0, .int .i64 0]) ?_ 2 _ rfl; (with_reducible repeat (first | refine blk_drewN ?_ _ | refine blk_drew ?_ | refine blk_alloc ?_ _)); refine blk_put (cs := #[.int .i64 t511, .int .i64 0, .int .i64 0, .int .i64 0]) ?_ 1 _ rfl; (with_reducible repeat (first | refine blk_drewN ?_ _ | refine blk_drew ?_ | refine blk_alloc ?_ _)); refine blk_put (cs := #[.int .i64 0, .int .i64 0, .int .i64 0, .int .i64 0]) ?_ 0 _ rfl; (with_reducible repeat (first | refine blk_drewN ?_ _ | refine blk_drew ?_ | refine blk_alloc ?_ _)); exact BK516.out) k_ hk)); (case aO => exact (by (with_reducible repeat (first | apply Kd.R_alloc | apply Kd.R_drewN | apply Kd.R_drew)); exact Kd.R_mono (Kd.R_far (p := ⟨gb516, 3, none⟩) (Kd.R_far (p := ⟨gb516, 2, none⟩) (Kd.R_far (p := ⟨gb516, 1, none⟩) (Kd.R_far (p := ⟨gb516, 0, none⟩) (Kd.R_mono HO_5.out (fun k_ hk => (⟨hk, hk.2⟩ : _ ∧ k_ ≠ gb516))) (fun _ hk => hk.2) (.int .i64 t511)) (fun _ hk => hk.2) (.int .i64 t512)) (fun _ hk => hk.2) (.int .i64 t513)) (fun _ hk => hk.2) (.int .i64 t514)) (fun _ hk => hk.1.2))); (case aS => exact (below_size blA)); (case aL => have := LMc10.out; omega); intro v518 w14 ho hb hg hat; rw [← Ny517.out] at ho; have n0_ := Aside0.mk (blk_grown (g := gb516) (o := .cells #[.int .i64 t511, .int .i64 t512, .int .i64 t513, .int .i64 t514] 25 (0, 0)) (by (with_reducible repeat (first | refine blk_drewN ?_ _ | refine blk_drew ?_ | refine blk_alloc ?_ _)); refine blk_put (cs := #[.int .i64 t511, .int .i64 t512, .int .i64 t513, .int .i64 0]) ?_ 3 _ rfl; (with_reducible repeat (first | refine blk_drewN ?_ _ | refine blk_drew ?_ | refine blk_alloc ?_ _)); refine blk_put (cs := #[.int .i64 t511, .int .i64 t512, .int .i64 0, .int .i64 0]) ?_ 2 _ rfl; (with_reducible repeat (first | refine blk_drewN ?_ _ | refine blk_drew ?_ | refine blk_alloc ?_ _)); refine blk_put (cs := #[.int .i64 t511, .int .i64 0, .int .i64 0, .int .i64 0]) ?_ 1 _ rfl; (with_reducible repeat (first | refine blk_drewN ?_ _ | refine blk_drew ?_ | refine blk_alloc ?_ _)); refine blk_put (cs := #[.int .i64 0, .int .i64 0, .int .i64 0, .int .i64 0]) ?_ 0 _ rfl; (with_reducible repeat (first | refine blk_drewN ?_ _ | refine blk_drew ?_ | refine blk_alloc ?_ _)); exact BK516.out) hg (Kd.R_away HO_5.out (fun _ hk => hk.2))); have n1_ := Aside0.mk (hb); have n2_ := Aside0.mk (ho); clear BK516; clear HB; clear HO_5; have BK516 := n0_; have HB := n1_; have HO519 := n2_; clear n0_ n1_ n2_; clear ho hb hg hat))
              go_roundg k1
              case measure => have := HK1.out; omega
              case rel => exact ⟨(y517), (wrap64 (x6_1 + 1)), (by first | rfl | (simp; done) | (simp [*]; done)), H', ⟨by have := HK1.out; omega⟩, ⟨by (with_reducible repeat (first | apply Kd.R_alloc | apply Kd.R_drewN | apply Kd.R_drew)); exact Kd.R_mono HO519.out (fun _ hk => trivial)⟩, ⟨blA⟩⟩
            · rw [if_neg c10] at H
              exact absurd H (by simp)
          · rw [if_neg c8] at H
            exact absurd H (by simp)
        · rw [if_neg c7] at H
          have c7b0 : decide (x6_1 < (l0.length : Int)) = false := decide_eq_false c7
          clear c7
          have H' := Aside0.mk H
          clear H
          go_wp2
          go_loopg [9] k1 (fun kq v9 w' => ∃ (x9_2 : Int), v9 = .int .i64 x9_2 ∧ Aside0 (spec_IsClosedList.l1 kq l0 x5_1 x9_2 = some (r1, r2)) ∧ Aside0 (kq ≤ k1) ∧ Aside0 (Kd.R k25 25 w' w.heap.size (fun _ => True) u5 x5_1) ∧ Aside0 (Below w.heap.size w w'))
          case atStart => exact ⟨(0), (by first | rfl | (simp; done) | (simp [*]; done)), H', ⟨Nat.le_refl _⟩, ⟨by (with_reducible repeat (first | apply Kd.R_alloc | apply Kd.R_drewN | apply Kd.R_drew)); exact HO_5.out⟩, ⟨blA⟩⟩
          case round =>
            clear H'
            try clear c1
            try clear p2
            try clear c3
            try clear c3b0
            try clear c3b1
            try clear c5
            try clear p5
            try clear q5
            try clear hx5
            try clear p6
            try clear c7
            try clear c7b0
            try clear c8
            try clear c8b0
            try clear c10
            try clear hcz13_0
            try clear hcz13_1
            try clear hcz13_2
            try clear hcz13_3
            try clear hfz13_0
            try clear hfz13_1
            try clear hfz13_2
            try clear hfz13_3
            try clear hx510_0
            try clear hx510_1
            try clear hx510_2
            try clear hx510_3
            try clear p2
            try clear p510
            try clear q510
            obtain ⟨x9_2, rfl, HA, HK2, HO_5, HB⟩ := hrel
            cases gk with
            | zero => exact absurd HA.out (by simp [spec_IsClosedList.l1])
            | succ k2 =>
              have H := HA.out
              clear HA
              simp only [spec_IsClosedList.l1] at H
              by_cases c15 : x9_2 < (l0.length : Int)
              · rw [if_pos c15] at H
                have c15b0 : decide (x9_2 < (l0.length : Int)) = true := decide_eq_true c15
                clear c15
                have H' := Aside0.mk H
                clear H
                go_wp2
                go_loopg [10] k2 (fun kq v10 w' => ∃ (x10_3 : Int), v10 = .int .i64 x10_3 ∧ Aside0 (spec_IsClosedList.l2 kq l0 x5_1 x9_2 x10_3 = some (r1, r2)) ∧ Aside0 (kq ≤ k2) ∧ Aside0 (Kd.R k25 25 w' w.heap.size (fun _ => True) u5 x5_1) ∧ Aside0 (Below w.heap.size w w'))
                case atStart => exact ⟨(0), (by first | rfl | (simp; done) | (simp [*]; done)), H', ⟨Nat.le_refl _⟩, ⟨by (with_reducible repeat (first | apply Kd.R_alloc | apply Kd.R_drewN | apply Kd.R_drew)); exact HO_5.out⟩, ⟨blA⟩⟩
                case round =>
                  clear H'
                  try clear c1
                  try clear p2
                  try clear c3
                  try clear c3b0
                  try clear c3b1
                  try clear c5
                  try clear p5
                  try clear q5
                  try clear hx5
                  try clear p6
                  try clear c7
                  try clear c7b0
                  try clear c8
                  try clear c8b0
                  try clear c10
                  try clear c15
                  try clear c15b0
                  try clear hcz13_0
                  try clear hcz13_1
                  try clear hcz13_2
                  try clear hcz13_3
                  try clear hfz13_0
                  try clear hfz13_1
                  try clear hfz13_2
                  try clear hfz13_3
                  try clear hx510_0
                  try clear hx510_1
                  try clear hx510_2
                  try clear hx510_3
                  try clear p2
                  try clear p5
                  try clear p510
                  try clear p6
                  try clear q5
                  try clear q510
                  obtain ⟨x10_3, rfl, HA, HK3, HO_5, HB⟩ := hrel
                  cases gk with
                  | zero => exact absurd HA.out (by simp [spec_IsClosedList.l2])
                  | succ k3 =>
                    have H := HA.out
                    clear HA
                    simp only [spec_IsClosedList.l2] at H
                    by_cases c16 : x10_3 < (l0.length : Int)
                    · rw [if_pos c16] at H
                      have c16b0 : decide (x10_3 < (l0.length : Int)) = true := decide_eq_true c16
                      clear c16
                      by_cases c17 : 0 ≤ x9_2
                      · rw [if_pos c17] at H
                        have c17b0 : decide (0 ≤ x9_2) = true := decide_eq_true c17
                        clear c17
                        by_cases c18 : x9_2 < (l0.length : Int)
                        · rw [if_pos c18] at H
                          have c18b0 : decide (x9_2 < (l0.length : Int)) = true := decide_eq_true c18
                          clear c18
                          by_cases c19 : 0 ≤ x10_3
                          · rw [if_pos c19] at H
                            have c19b0 : decide (0 ≤ x10_3) = true := decide_eq_true c19
                            clear c19
                            replace H := Option.bind_eq_some_iff.mp H
                            obtain ⟨⟨t522, t523, t524, t525, t526⟩, A200, H⟩ := H
                            replace H : (if t526 = true then ((spec_l06Matrix.f k3 x5_1 t522 t523 t524 t525).bind fun t528 => (if t528 < 0 then (some (false, 0)) else (spec_IsClosedList.l2 k3 l0 x5_1 x9_2 (wrap64 (x10_3 + 1))))) else (some (false, 0))) = some (r1, r2) := H
                            have A20 := Aside0.mk A200
                            clear A200
                            by_cases c21 : t526 = true
                            · subst c21
                              have H1 : ((spec_l06Matrix.f k3 x5_1 t522 t523 t524 t525).bind fun t528 => (if t528 < 0 then (some (false, 0)) else (spec_IsClosedList.l2 k3 l0 x5_1 x9_2 (wrap64 (x10_3 + 1))))) = some (r1, r2) := by rw [if_pos rfl] at H; exact H
                              clear H
                              have H := H1
                              clear H1
                              replace H := Option.bind_eq_some_iff.mp H
                              obtain ⟨t528, A220, H⟩ := H
                              replace H : (if t528 < 0 then (some (false, 0)) else (spec_IsClosedList.l2 k3 l0 x5_1 x9_2 (wrap64 (x10_3 + 1)))) = some (r1, r2) := H
                              have A22 := Aside0.mk A220
                              clear A220
                              by_cases c23 : t528 < 0
                              · rw [if_pos c23] at H
                                have c23b0 : decide (t528 < 0) = true := decide_eq_true c23
                                clear c23
                                simp only [Option.some.injEq, Prod.mk.injEq] at H
                                obtain ⟨rfl, rfl⟩ := H
                                try go_wp2
                                have n0_ := Aside0.mk (Kd.R_drew HO_5.out)
                                have n1_ := Aside0.mk (below_drew1 HB.out)
                                clear HO_5
                                clear HB
                                have HO_5 := n0_
                                have HB := n1_
                                clear n0_ n1_
                                have p520 : 0 ≤ (x9_2 : Int) := of_decide_eq_true (by first | (with_reducible assumption) | assumption)
                                have q520 : x9_2 < (l0.length : Int) := of_decide_eq_true (by first | (with_reducible assumption) | assumption)
                                obtain ⟨ad520, e520, hx520_0, hx520_1, hx520_2, hx520_3⟩ := at_T25 HR0.out x9_2 p520 q520
                                have hw520_3 := hx520_3
                                have hw520_2 := hx520_2
                                have hw520_1 := hx520_1
                                have hw520_0 := hx520_0
                                cases e520
                                replace hx520_0 := (HB.out.cell (World.block_lt_of_cell? w _ hx520_0)).trans hx520_0
                                replace hx520_1 := (HB.out.cell (World.block_lt_of_cell? w _ hx520_1)).trans hx520_1
                                replace hx520_2 := (HB.out.cell (World.block_lt_of_cell? w _ hx520_2)).trans hx520_2
                                replace hx520_3 := (HB.out.cell (World.block_lt_of_cell? w _ hx520_3)).trans hx520_3
                                replace p520 := eq_true p520
                                replace q520 := eq_true q520
                                have p521 : 0 ≤ (x10_3 : Int) := of_decide_eq_true (by first | (with_reducible assumption) | assumption)
                                have q521 : x10_3 < (l0.length : Int) := of_decide_eq_true (by first | (with_reducible assumption) | assumption)
                                obtain ⟨ad521, e521, hx521_0, hx521_1, hx521_2, hx521_3⟩ := at_T25 HR0.out x10_3 p521 q521
                                have hw521_3 := hx521_3
                                have hw521_2 := hx521_2
                                have hw521_1 := hx521_1
                                have hw521_0 := hx521_0
                                obtain rfl : ad520 = ad521 := (by injection e521)
                                replace hx521_0 := (HB.out.cell (World.block_lt_of_cell? w _ hx521_0)).trans hx521_0
                                replace hx521_1 := (HB.out.cell (World.block_lt_of_cell? w _ hx521_1)).trans hx521_1
                                replace hx521_2 := (HB.out.cell (World.block_lt_of_cell? w _ hx521_2)).trans hx521_2
                                replace hx521_3 := (HB.out.cell (World.block_lt_of_cell? w _ hx521_3)).trans hx521_3
                                replace p521 := eq_true p521
                                replace q521 := eq_true q521
                                refine start_ (n := 15) (S := fun w' => w'.cell? (ad520.add ((x9_2).toNat * 4)) = some (.int .i64 ((rd_T25 l0 x9_2).f0.f0)) ∧ w'.cell? ⟨(ad520.add ((x9_2).toNat * 4)).block, (ad520.add ((x9_2).toNat * 4)).off + 1, none⟩ = some (.int .i64 ((rd_T25 l0 x9_2).f0.f1)) ∧ w'.cell? ⟨(ad520.add ((x9_2).toNat * 4)).block, (ad520.add ((x9_2).toNat * 4)).off + 2, none⟩ = some (.int .i64 ((rd_T25 l0 x9_2).f1.f0)) ∧ w'.cell? ⟨(ad520.add ((x9_2).toNat * 4)).block, (ad520.add ((x9_2).toNat * 4)).off + 3, none⟩ = some (.int .i64 ((rd_T25 l0 x9_2).f1.f1)) ∧ w'.cell? (ad520.add ((x10_3).toNat * 4)) = some (.int .i64 ((rd_T25 l0 x10_3).f0.f0)) ∧ w'.cell? ⟨(ad520.add ((x10_3).toNat * 4)).block, (ad520.add ((x10_3).toNat * 4)).off + 1, none⟩ = some (.int .i64 ((rd_T25 l0 x10_3).f0.f1)) ∧ w'.cell? ⟨(ad520.add ((x10_3).toNat * 4)).block, (ad520.add ((x10_3).toNat * 4)).off + 2, none⟩ = some (.int .i64 ((rd_T25 l0 x10_3).f1.f0)) ∧ w'.cell? ⟨(ad520.add ((x10_3).toNat * 4)).block, (ad520.add ((x10_3).toNat * 4)).off + 3, none⟩ = some (.int .i64 ((rd_T25 l0 x10_3).f1.f1))) (ds := []) #[false, false, false, false, false, false, false, false, false, false, false, false, false, false, false] (by kernel_rfl) rfl rfl ⟨((HB.out.cell (World.block_lt_of_cell? w _ hw520_0)).trans hw520_0), ((HB.out.cell (World.block_lt_of_cell? w _ hw520_1)).trans hw520_1), ((HB.out.cell (World.block_lt_of_cell? w _ hw520_2)).trans hw520_2), ((HB.out.cell (World.block_lt_of_cell? w _ hw520_3)).trans hw520_3), ((HB.out.cell (World.block_lt_of_cell? w _ hw521_0)).trans hw521_0), ((HB.out.cell (World.block_lt_of_cell? w _ hw521_1)).trans hw521_1), ((HB.out.cell (World.block_lt_of_cell? w _ hw521_2)).trans hw521_2), ((HB.out.cell (World.block_lt_of_cell? w _ hw521_3)).trans hw521_3)⟩ (fun hHeld => ?_); refine with_tabW spec_IsClosedList.tab16 spec_IsClosedList.bits16 (fun HT_ HW_ => ?_)
                                generalize wr.drew = w24 at HO_5 HB hx520_0 hx520_1 hx520_2 hx520_3 hx521_0 hx521_1 hx521_2 hx521_3 hHeld ⊢
                                refine pure_ (i := 0) (N := some 50) (v := ?_) (a' := ?_) #[true, false, false, false, false, false, false, false, false, false, false, false, false, false, false] rfl rfl (any_of HT_.out (by kernel_rfl)) (fun _ _ _ h => h) (Or.inl ⟨by rfl, ?_⟩) ?_ ?_
                                rotate_left
                                · intro w'
                                  go_simp
                                  with_reducible rfl
                                rotate_left
                                · simp only [Act.put, List.setIfInBounds_toArray, List.set_cons_zero, List.set_cons_succ, i64_w, i32_w]
                                  rfl
                                refine pure_ (i := 1) (N := some 51) (v := ?_) (a' := ?_) #[true, true, false, false, false, false, false, false, false, false, false, false, false, false, false] rfl rfl (any_of HT_.out (by kernel_rfl)) (fun _ _ _ h => h) (Or.inl ⟨by rfl, ?_⟩) ?_ ?_
                                rotate_left
                                · intro w'
                                  go_simp
                                  with_reducible rfl
                                rotate_left
                                · simp only [Act.put, List.setIfInBounds_toArray, List.set_cons_zero, List.set_cons_succ, i64_w, i32_w]
                                  rfl
                                refine pure_ (i := 2) (N := some 52) (v := ?_) (a' := ?_) #[true, true, true, false, false, false, false, false, false, false, false, false, false, false, false] rfl rfl (any_of HT_.out (by kernel_rfl)) (fun _ _ _ h => h) (Or.inl ⟨by rfl, ?_⟩) ?_ ?_
                                rotate_left
                                · intro w'
                                  go_simp
                                  with_reducible rfl
                                rotate_left
                                · simp only [Act.put, List.setIfInBounds_toArray, List.set_cons_zero, List.set_cons_succ, i64_w, i32_w]
                                  rfl
                                refine pure_ (i := 4) (N := some 54) (v := ?_) (a' := ?_) #[true, true, true, false, true, false, false, false, false, false, false, false, false, false, false] rfl rfl (any_of HT_.out (by kernel_rfl)) (fun _ _ _ h => h) (Or.inl ⟨by rfl, ?_⟩) ?_ ?_
                                rotate_left
                                · intro w'
                                  go_simp
                                  with_reducible rfl
                                rotate_left
                                · simp only [Act.put, List.setIfInBounds_toArray, List.set_cons_zero, List.set_cons_succ, i64_w, i32_w]
                                  rfl
                                refine pure_ (i := 5) (N := some 55) (v := ?_) (a' := ?_) #[true, true, true, false, true, true, false, false, false, false, false, false, false, false, false] rfl rfl (any_of HT_.out (by kernel_rfl)) (fun _ _ _ h => h) (Or.inl ⟨by rfl, ?_⟩) ?_ ?_
                                rotate_left
                                · intro w'
                                  go_simp
                                  with_reducible rfl
                                rotate_left
                                · simp only [Act.put, List.setIfInBounds_toArray, List.set_cons_zero, List.set_cons_succ, i64_w, i32_w]
                                  rfl
                                refine pure_ (i := 6) (N := some 56) (v := ?_) (a' := ?_) #[true, true, true, false, true, true, true, false, false, false, false, false, false, false, false] rfl rfl (any_of HT_.out (by kernel_rfl)) (fun _ _ _ h => h) (Or.inl ⟨by rfl, ?_⟩) ?_ ?_
                                rotate_left
                                · intro w'
                                  go_simp
                                  with_reducible rfl
                                rotate_left
                                · simp only [Act.put, List.setIfInBounds_toArray, List.set_cons_zero, List.set_cons_succ, i64_w, i32_w]
                                  rfl
                                refine take_ (i := 3) (N := some 53) (v := ?_) (a' := ?_) #[true, true, true, true, true, true, true, false, false, false, false, false, false, false, false] rfl rfl (take_ofW HT_.out HW_.out (by kernel_rfl)) (fun _ _ _ h => h) (Or.inl ⟨by rfl, ?_⟩) hHeld ?_ ?_
                                rotate_left
                                · rintro w' ⟨s0, s1, s2, s3, s4, s5, s6, s7⟩
                                  go_simp
                                  with_reducible rfl
                                rotate_left
                                · simp only [Act.put, List.setIfInBounds_toArray, List.set_cons_zero, List.set_cons_succ, i64_w, i32_w]
                                  rfl
                                refine take_ (i := 7) (N := some 57) (v := ?_) (a' := ?_) #[true, true, true, true, true, true, true, true, false, false, false, false, false, false, false] rfl rfl (take_ofW HT_.out HW_.out (by kernel_rfl)) (fun _ _ _ h => h) (Or.inl ⟨by rfl, ?_⟩) hHeld ?_ ?_
                                rotate_left
                                · rintro w' ⟨s0, s1, s2, s3, s4, s5, s6, s7⟩
                                  go_simp
                                  with_reducible rfl
                                rotate_left
                                · simp only [Act.put, List.setIfInBounds_toArray, List.set_cons_zero, List.set_cons_succ, i64_w, i32_w]
                                  rfl
                                refine join_ (σ := Nat) 2 #[true, true, true, true, true, true, true, true, true, true, true, true, true, false, false] (fun s_ => [(58, .tuple #[.agg #[.int .i64 t522, .int .i64 t523, .int .i64 t524, .int .i64 t525], .bool true]), (11, .pointer (some ⟨s_, 0, none⟩)), (49, .tuple #[.agg #[.int .i64 t522, .int .i64 t523, .int .i64 t524, .int .i64 t525], .bool true]), (59, .agg #[.int .i64 t522, .int .i64 t523, .int .i64 t524, .int .i64 t525]), (60, .bool true)]) (fun s_ w' => (w'.cell? (ad520.add ((x9_2).toNat * 4)) = some (.int .i64 ((rd_T25 l0 x9_2).f0.f0)) ∧ w'.cell? ⟨(ad520.add ((x9_2).toNat * 4)).block, (ad520.add ((x9_2).toNat * 4)).off + 1, none⟩ = some (.int .i64 ((rd_T25 l0 x9_2).f0.f1)) ∧ w'.cell? ⟨(ad520.add ((x9_2).toNat * 4)).block, (ad520.add ((x9_2).toNat * 4)).off + 2, none⟩ = some (.int .i64 ((rd_T25 l0 x9_2).f1.f0)) ∧ w'.cell? ⟨(ad520.add ((x9_2).toNat * 4)).block, (ad520.add ((x9_2).toNat * 4)).off + 3, none⟩ = some (.int .i64 ((rd_T25 l0 x9_2).f1.f1)) ∧ w'.cell? (ad520.add ((x10_3).toNat * 4)) = some (.int .i64 ((rd_T25 l0 x10_3).f0.f0)) ∧ w'.cell? ⟨(ad520.add ((x10_3).toNat * 4)).block, (ad520.add ((x10_3).toNat * 4)).off + 1, none⟩ = some (.int .i64 ((rd_T25 l0 x10_3).f0.f1)) ∧ w'.cell? ⟨(ad520.add ((x10_3).toNat * 4)).block, (ad520.add ((x10_3).toNat * 4)).off + 2, none⟩ = some (.int .i64 ((rd_T25 l0 x10_3).f1.f0)) ∧ w'.cell? ⟨(ad520.add ((x10_3).toNat * 4)).block, (ad520.add ((x10_3).toNat * 4)).off + 3, none⟩ = some (.int .i64 ((rd_T25 l0 x10_3).f1.f1))) ∧ (Kd.R k25 25 w' w.heap.size (fun k_ => k_ ≠ s_) u5 x5_1) ∧ (w'.heap[s_]? = some (.cells #[.int .i64 0, .int .i64 0, .int .i64 0, .int .i64 0] 25 (0, 0))) ∧ (w.heap.size ≤ s_) ∧ (w.heap.size ≤ s_) ∧ (Below w.heap.size w w')) ?_ ?_
                                rotate_left
                                · intro hCont
                                  refine two_ (i := 8) (j := 12) (Ni := some 58) (Nj := some 11) #[true, true, true, true, true, true, true, true, true, false, false, false, false, false, false] #[true, true, true, true, true, true, true, true, false, false, false, false, true, false, false] rfl rfl rfl rfl (two_of HT_.out (by kernel_rfl)) (by decide) (by decide) (fun K hK => ?_) (fun K hK => ?_)
                                  · skip
                                    refine goes_ Try.func71 (by kernel_rfl) rfl #[.agg #[.int .i64 ((rd_T25 l0 x9_2).f0.f0), .int .i64 ((rd_T25 l0 x9_2).f0.f1), .int .i64 ((rd_T25 l0 x9_2).f1.f0), .int .i64 ((rd_T25 l0 x9_2).f1.f1)], .agg #[.int .i64 ((rd_T25 l0 x10_3).f0.f0), .int .i64 ((rd_T25 l0 x10_3).f0.f1), .int .i64 ((rd_T25 l0 x10_3).f1.f0), .int .i64 ((rd_T25 l0 x10_3).f1.f1)]] (by rfl) rfl rfl (by (try simp only [List.map_toArray, List.map_cons, List.map_nil]); first | done | rfl | (simp only [List.length_drop, List.length_take]; rfl)) ?_
                                    with_reducible refine (spec_l04Times.calls k3 ((rd_T25 l0 x9_2).f0.f0) ((rd_T25 l0 x9_2).f0.f1) ((rd_T25 l0 x9_2).f1.f0) ((rd_T25 l0 x9_2).f1.f1) ((rd_T25 l0 x10_3).f0.f0) ((rd_T25 l0 x10_3).f0.f1) ((rd_T25 l0 x10_3).f1.f0) ((rd_T25 l0 x10_3).f1.f1) t522 t523 t524 t525 true _ A20.out).mono ?_
                                    rintro e w25 ⟨rfl, hb⟩
                                    refine ⟨_, rfl, ?_⟩
                                    have n0_ := Aside0.mk (Kd.R_below (by (with_reducible repeat (first | apply Kd.R_alloc | apply Kd.R_drewN | apply Kd.R_drew)); exact HO_5.out) hb)
                                    have n1_ := Aside0.mk (below_step blA hb)
                                    clear HO_5
                                    clear HB
                                    have HO_5 := n0_
                                    have HB := n1_
                                    clear n0_ n1_
                                    (try clear hb)
                                    (try clear hb2)
                                    (try clear hk)
                                    (try clear hi)
                                    refine hK.out _ _ ⟨((HB.out.cell (World.block_lt_of_cell? w _ hw520_0)).trans hw520_0), ((HB.out.cell (World.block_lt_of_cell? w _ hw520_1)).trans hw520_1), ((HB.out.cell (World.block_lt_of_cell? w _ hw520_2)).trans hw520_2), ((HB.out.cell (World.block_lt_of_cell? w _ hw520_3)).trans hw520_3), ((HB.out.cell (World.block_lt_of_cell? w _ hw521_0)).trans hw521_0), ((HB.out.cell (World.block_lt_of_cell? w _ hw521_1)).trans hw521_1), ((HB.out.cell (World.block_lt_of_cell? w _ hw521_2)).trans hw521_2), ((HB.out.cell (World.block_lt_of_cell? w _ hw521_3)).trans hw521_3)⟩ (fun hHeld => ?_)
                                    clear hK K
                                    refine norm_ (a' := ?_) ?_ ?_
                                    rotate_left
                                    · show Act.put _ (some 58) _ = _
                                      simp only [Act.put, List.setIfInBounds_toArray, List.set_cons_zero, List.set_cons_succ, i64_w, i32_w]
                                      rfl
                                    refine pure_ (i := 9) (N := some 49) (v := ?_) (a' := ?_) #[true, true, true, true, true, true, true, true, true, true, false, false, false, false, false] rfl rfl (any_of HT_.out (by kernel_rfl)) (fun _ _ _ h => h) (Or.inl ⟨by rfl, ?_⟩) ?_ ?_
                                    rotate_left
                                    · intro w'
                                      go_simp
                                      with_reducible rfl
                                    rotate_left
                                    · simp only [Act.put, List.setIfInBounds_toArray, List.set_cons_zero, List.set_cons_succ, i64_w, i32_w]
                                      rfl
                                    refine pure_ (i := 10) (N := some 59) (v := ?_) (a' := ?_) #[true, true, true, true, true, true, true, true, true, true, true, false, false, false, false] rfl rfl (any_of HT_.out (by kernel_rfl)) (fun _ _ _ h => h) (Or.inl ⟨by rfl, ?_⟩) ?_ ?_
                                    rotate_left
                                    · intro w'
                                      go_simp
                                      with_reducible rfl
                                    rotate_left
                                    · simp only [Act.put, List.setIfInBounds_toArray, List.set_cons_zero, List.set_cons_succ, i64_w, i32_w]
                                      rfl
                                    refine pure_ (i := 11) (N := some 60) (v := ?_) (a' := ?_) #[true, true, true, true, true, true, true, true, true, true, true, true, false, false, false] rfl rfl (any_of HT_.out (by kernel_rfl)) (fun _ _ _ h => h) (Or.inl ⟨by rfl, ?_⟩) ?_ ?_
                                    rotate_left
                                    · intro w'
                                      go_simp
                                      with_reducible rfl
                                    rotate_left
                                    · simp only [Act.put, List.setIfInBounds_toArray, List.set_cons_zero, List.set_cons_succ, i64_w, i32_w]
                                      rfl
                                    refine one_ (i := 12) (N := some 11) #[true, true, true, true, true, true, true, true, true, true, true, true, true, false, false] rfl rfl (one_of HT_.out (by kernel_rfl)) (by decide) (fun K hK => ?_)
                                    refine box_step ?hg (N := 11) ?hd (cs := #[.int .i64 0, .int .i64 0, .int .i64 0, .int .i64 0]) (t := 25) ?hr ?_; (case hd => rfl); (case hg => rfl); (case hr => first | (go_simp; done) | (go_simp; rfl))
                                    intro gb527 hg w26 hbox hb
                                    have n0_ := Aside0.mk (Kd.R_below (Kd.R_elderB (by (with_reducible repeat (first | apply Kd.R_alloc | apply Kd.R_drewN | apply Kd.R_drew)); exact HO_5.out) gb527 (Nat.le_of_eq hg.symm)) hb)
                                    have n1_ := Aside0.mk (below_step blA hb)
                                    have n2_ := Aside0.mk (hbox)
                                    have n3_ := Aside0.mk (szA hg blA)
                                    have n4_ := Aside0.mk (szA hg blA)
                                    clear HO_5
                                    clear HB
                                    have HO_5 := n0_
                                    have HB := n1_
                                    have BK527 := n2_
                                    have GW527 := n3_
                                    have GE527 := n4_
                                    clear n0_ n1_ n2_ n3_ n4_
                                    clear hb hbox hg
                                    refine hK.out _ _ ⟨((HB.out.cell (World.block_lt_of_cell? w _ hw520_0)).trans hw520_0), ((HB.out.cell (World.block_lt_of_cell? w _ hw520_1)).trans hw520_1), ((HB.out.cell (World.block_lt_of_cell? w _ hw520_2)).trans hw520_2), ((HB.out.cell (World.block_lt_of_cell? w _ hw520_3)).trans hw520_3), ((HB.out.cell (World.block_lt_of_cell? w _ hw521_0)).trans hw521_0), ((HB.out.cell (World.block_lt_of_cell? w _ hw521_1)).trans hw521_1), ((HB.out.cell (World.block_lt_of_cell? w _ hw521_2)).trans hw521_2), ((HB.out.cell (World.block_lt_of_cell? w _ hw521_3)).trans hw521_3)⟩ (fun hHeld => ?_)
                                    clear hK K
                                    refine norm_ (a' := ?_) ?_ ?_
                                    rotate_left
                                    · show Act.put _ (some 11) _ = _
                                      simp only [Act.put, List.setIfInBounds_toArray, List.set_cons_zero, List.set_cons_succ, i64_w, i32_w]
                                      rfl
                                    exact norm_ (by simp only [putAll, Act.put, List.setIfInBounds_toArray, List.set_cons_zero, List.set_cons_succ]) (hCont (gb527) _ ⟨hHeld, (by (with_reducible repeat (first | apply Kd.R_alloc | apply Kd.R_drewN | apply Kd.R_drew)); exact Kd.R_mono HO_5.out (fun _ hk => hk.2)), (bkA BK527), GW527.out, GE527.out, blA⟩)
                                  · skip
                                    refine box_step ?hg (N := 11) ?hd (cs := #[.int .i64 0, .int .i64 0, .int .i64 0, .int .i64 0]) (t := 25) ?hr ?_; (case hd => rfl); (case hg => rfl); (case hr => first | (go_simp; done) | (go_simp; rfl))
                                    intro gb527 hg w25 hbox hb
                                    have n0_ := Aside0.mk (Kd.R_below (Kd.R_elderB (by (with_reducible repeat (first | apply Kd.R_alloc | apply Kd.R_drewN | apply Kd.R_drew)); exact HO_5.out) gb527 (Nat.le_of_eq hg.symm)) hb)
                                    have n1_ := Aside0.mk (below_step blA hb)
                                    have n2_ := Aside0.mk (hbox)
                                    have n3_ := Aside0.mk (szA hg blA)
                                    have n4_ := Aside0.mk (szA hg blA)
                                    clear HO_5
                                    clear HB
                                    have HO_5 := n0_
                                    have HB := n1_
                                    have BK527 := n2_
                                    have GW527 := n3_
                                    have GE527 := n4_
                                    clear n0_ n1_ n2_ n3_ n4_
                                    clear hb hbox hg
                                    refine hK.out _ _ ⟨((HB.out.cell (World.block_lt_of_cell? w _ hw520_0)).trans hw520_0), ((HB.out.cell (World.block_lt_of_cell? w _ hw520_1)).trans hw520_1), ((HB.out.cell (World.block_lt_of_cell? w _ hw520_2)).trans hw520_2), ((HB.out.cell (World.block_lt_of_cell? w _ hw520_3)).trans hw520_3), ((HB.out.cell (World.block_lt_of_cell? w _ hw521_0)).trans hw521_0), ((HB.out.cell (World.block_lt_of_cell? w _ hw521_1)).trans hw521_1), ((HB.out.cell (World.block_lt_of_cell? w _ hw521_2)).trans hw521_2), ((HB.out.cell (World.block_lt_of_cell? w _ hw521_3)).trans hw521_3)⟩ (fun hHeld => ?_)
                                    clear hK K
                                    refine norm_ (a' := ?_) ?_ ?_
                                    rotate_left
                                    · show Act.put _ (some 11) _ = _
                                      simp only [Act.put, List.setIfInBounds_toArray, List.set_cons_zero, List.set_cons_succ, i64_w, i32_w]
                                      rfl
                                    refine one_ (i := 8) (N := some 58) #[true, true, true, true, true, true, true, true, true, false, false, false, true, false, false] rfl rfl (one_of HT_.out (by kernel_rfl)) (by decide) (fun K hK => ?_)
                                    refine goes_ Try.func71 (by kernel_rfl) rfl #[.agg #[.int .i64 ((rd_T25 l0 x9_2).f0.f0), .int .i64 ((rd_T25 l0 x9_2).f0.f1), .int .i64 ((rd_T25 l0 x9_2).f1.f0), .int .i64 ((rd_T25 l0 x9_2).f1.f1)], .agg #[.int .i64 ((rd_T25 l0 x10_3).f0.f0), .int .i64 ((rd_T25 l0 x10_3).f0.f1), .int .i64 ((rd_T25 l0 x10_3).f1.f0), .int .i64 ((rd_T25 l0 x10_3).f1.f1)]] (by rfl) rfl rfl (by (try simp only [List.map_toArray, List.map_cons, List.map_nil]); first | done | rfl | (simp only [List.length_drop, List.length_take]; rfl)) ?_
                                    with_reducible refine (spec_l04Times.calls k3 ((rd_T25 l0 x9_2).f0.f0) ((rd_T25 l0 x9_2).f0.f1) ((rd_T25 l0 x9_2).f1.f0) ((rd_T25 l0 x9_2).f1.f1) ((rd_T25 l0 x10_3).f0.f0) ((rd_T25 l0 x10_3).f0.f1) ((rd_T25 l0 x10_3).f1.f0) ((rd_T25 l0 x10_3).f1.f1) t522 t523 t524 t525 true _ A20.out).mono ?_
                                    rintro e w26 ⟨rfl, hb⟩
                                    refine ⟨_, rfl, ?_⟩
                                    have n0_ := Aside0.mk (Kd.R_below (by (with_reducible repeat (first | apply Kd.R_alloc | apply Kd.R_drewN | apply Kd.R_drew)); exact HO_5.out) hb)
                                    have n1_ := Aside0.mk (blk_below (bkA BK527) hb)
                                    have n2_ := Aside0.mk (below_step blA hb)
                                    clear HO_5
                                    clear BK527
                                    clear HB
                                    have HO_5 := n0_
                                    have BK527 := n1_
                                    have HB := n2_
                                    clear n0_ n1_ n2_
                                    (try clear hb)
                                    (try clear hb2)
                                    (try clear hk)
                                    (try clear hi)
                                    refine hK.out _ _ ⟨((HB.out.cell (World.block_lt_of_cell? w _ hw520_0)).trans hw520_0), ((HB.out.cell (World.block_lt_of_cell? w _ hw520_1)).trans hw520_1), ((HB.out.cell (World.block_lt_of_cell? w _ hw520_2)).trans hw520_2), ((HB.out.cell (World.block_lt_of_cell? w _ hw520_3)).trans hw520_3), ((HB.out.cell (World.block_lt_of_cell? w _ hw521_0)).trans hw521_0), ((HB.out.cell (World.block_lt_of_cell? w _ hw521_1)).trans hw521_1), ((HB.out.cell (World.block_lt_of_cell? w _ hw521_2)).trans hw521_2), ((HB.out.cell (World.block_lt_of_cell? w _ hw521_3)).trans hw521_3)⟩ (fun hHeld => ?_)
                                    clear hK K
                                    refine norm_ (a' := ?_) ?_ ?_
                                    rotate_left
                                    · show Act.put _ (some 58) _ = _
                                      simp only [Act.put, List.setIfInBounds_toArray, List.set_cons_zero, List.set_cons_succ, i64_w, i32_w]
                                      rfl
                                    refine pure_ (i := 9) (N := some 49) (v := ?_) (a' := ?_) #[true, true, true, true, true, true, true, true, true, true, false, false, true, false, false] rfl rfl (any_of HT_.out (by kernel_rfl)) (fun _ _ _ h => h) (Or.inl ⟨by rfl, ?_⟩) ?_ ?_
                                    rotate_left
                                    · intro w'
                                      go_simp
                                      with_reducible rfl
                                    rotate_left
                                    · simp only [Act.put, List.setIfInBounds_toArray, List.set_cons_zero, List.set_cons_succ, i64_w, i32_w]
                                      rfl
                                    refine pure_ (i := 10) (N := some 59) (v := ?_) (a' := ?_) #[true, true, true, true, true, true, true, true, true, true, true, false, true, false, false] rfl rfl (any_of HT_.out (by kernel_rfl)) (fun _ _ _ h => h) (Or.inl ⟨by rfl, ?_⟩) ?_ ?_
                                    rotate_left
                                    · intro w'
                                      go_simp
                                      with_reducible rfl
                                    rotate_left
                                    · simp only [Act.put, List.setIfInBounds_toArray, List.set_cons_zero, List.set_cons_succ, i64_w, i32_w]
                                      rfl
                                    refine pure_ (i := 11) (N := some 60) (v := ?_) (a' := ?_) #[true, true, true, true, true, true, true, true, true, true, true, true, true, false, false] rfl rfl (any_of HT_.out (by kernel_rfl)) (fun _ _ _ h => h) (Or.inl ⟨by rfl, ?_⟩) ?_ ?_
                                    rotate_left
                                    · intro w'
                                      go_simp
                                      with_reducible rfl
                                    rotate_left
                                    · simp only [Act.put, List.setIfInBounds_toArray, List.set_cons_zero, List.set_cons_succ, i64_w, i32_w]
                                      rfl
                                    exact norm_ (by simp only [putAll, Act.put, List.setIfInBounds_toArray, List.set_cons_zero, List.set_cons_succ]) (hCont (gb527) _ ⟨hHeld, (by (with_reducible repeat (first | apply Kd.R_alloc | apply Kd.R_drewN | apply Kd.R_drew)); exact Kd.R_mono HO_5.out (fun _ hk => hk.2)), (bkA BK527), GW527.out, GE527.out, blA⟩)
                                rintro gb527 w27 ⟨hS_, h0_, h1_, h2_, h3_, h4_⟩
                                have n0_ : Aside0 (Kd.R k25 25 w27 w.heap.size (fun k_ => k_ ≠ gb527) u5 x5_1) := ⟨h0_⟩
                                have n1_ : Aside0 (w27.heap[gb527]? = some (.cells #[.int .i64 0, .int .i64 0, .int .i64 0, .int .i64 0] 25 (0, 0))) := ⟨h1_⟩
                                have n2_ : Aside0 (w.heap.size ≤ gb527) := ⟨h2_⟩
                                have n3_ : Aside0 (w.heap.size ≤ gb527) := ⟨h3_⟩
                                have n4_ : Aside0 (Below w.heap.size w w27) := ⟨h4_⟩
                                clear HO_5
                                clear HB
                                clear h0_ h1_ h2_ h3_ h4_
                                have HO_5 := n0_
                                have BK527 := n1_
                                have GW527 := n2_
                                have GE527 := n3_
                                have HB := n4_
                                clear n0_ n1_ n2_ n3_ n4_
                                have hHeld : w27.cell? (ad520.add ((x9_2).toNat * 4)) = some (.int .i64 ((rd_T25 l0 x9_2).f0.f0)) ∧ w27.cell? ⟨(ad520.add ((x9_2).toNat * 4)).block, (ad520.add ((x9_2).toNat * 4)).off + 1, none⟩ = some (.int .i64 ((rd_T25 l0 x9_2).f0.f1)) ∧ w27.cell? ⟨(ad520.add ((x9_2).toNat * 4)).block, (ad520.add ((x9_2).toNat * 4)).off + 2, none⟩ = some (.int .i64 ((rd_T25 l0 x9_2).f1.f0)) ∧ w27.cell? ⟨(ad520.add ((x9_2).toNat * 4)).block, (ad520.add ((x9_2).toNat * 4)).off + 3, none⟩ = some (.int .i64 ((rd_T25 l0 x9_2).f1.f1)) ∧ w27.cell? (ad520.add ((x10_3).toNat * 4)) = some (.int .i64 ((rd_T25 l0 x10_3).f0.f0)) ∧ w27.cell? ⟨(ad520.add ((x10_3).toNat * 4)).block, (ad520.add ((x10_3).toNat * 4)).off + 1, none⟩ = some (.int .i64 ((rd_T25 l0 x10_3).f0.f1)) ∧ w27.cell? ⟨(ad520.add ((x10_3).toNat * 4)).block, (ad520.add ((x10_3).toNat * 4)).off + 2, none⟩ = some (.int .i64 ((rd_T25 l0 x10_3).f1.f0)) ∧ w27.cell? ⟨(ad520.add ((x10_3).toNat * 4)).block, (ad520.add ((x10_3).toNat * 4)).off + 3, none⟩ = some (.int .i64 ((rd_T25 l0 x10_3).f1.f1)) := hS_
                                refine norm_ (a' := ?_) ?_ ?_
                                rotate_left
                                · simp only [putAll, Act.put, List.setIfInBounds_toArray, List.set_cons_zero, List.set_cons_succ]
                                  rfl
                                refine one_ (i := 13) (N := none) #[true, true, true, true, true, true, true, true, true, true, true, true, true, true, false] rfl rfl (one_of HT_.out (by kernel_rfl)) (by decide) (fun K hK => ?_)
                                have hs28 : w27.cell? ⟨gb527, 0, none⟩ = some (.int .i64 0) := (blk_cell BK527.out 0).trans rfl
                                have hfs28 := blk_frozen BK527.out 0
                                have hs29 : w27.cell? ⟨gb527, 1, none⟩ = some (.int .i64 0) := (blk_cell BK527.out 1).trans rfl
                                have hfs29 := blk_frozen BK527.out 1
                                have hs30 : w27.cell? ⟨gb527, 2, none⟩ = some (.int .i64 0) := (blk_cell BK527.out 2).trans rfl
                                have hfs30 := blk_frozen BK527.out 2
                                have hs31 : w27.cell? ⟨gb527, 3, none⟩ = some (.int .i64 0) := (blk_cell BK527.out 3).trans rfl
                                have hfs31 := blk_frozen BK527.out 3
                                refine skip_ (w1 := ?_) (by rfl) rfl ?_ ?_
                                rotate_left
                                · go_simp
                                  rfl
                                refine hK.out _ _ ⟨((cell_far (p := ⟨gb527, _, none⟩) (by first | exact Nat.ne_of_lt (Nat.lt_of_lt_of_le (by have := World.block_lt_of_cell? _ _ hw520_0; first | rwa [add_block] at this | exact this) GW527.out) | (rw [add_block]; exact Nat.ne_of_lt (Nat.lt_of_lt_of_le (by have := World.block_lt_of_cell? _ _ hw520_0; first | rwa [add_block] at this | exact this) GW527.out)) | (show (Addr.add _ _).block ≠ _; rw [add_block]; exact Nat.ne_of_lt (Nat.lt_of_lt_of_le (by have := World.block_lt_of_cell? _ _ hw520_0; first | rwa [add_block] at this | exact this) GW527.out)) | (dsimp only; exact Nat.ne_of_lt (Nat.lt_of_lt_of_le (by have := World.block_lt_of_cell? _ _ hw520_0; first | rwa [add_block] at this | exact this) GW527.out))) _).trans (((cell_far (p := ⟨gb527, _, none⟩) (by first | exact Nat.ne_of_lt (Nat.lt_of_lt_of_le (by have := World.block_lt_of_cell? _ _ hw520_0; first | rwa [add_block] at this | exact this) GW527.out) | (rw [add_block]; exact Nat.ne_of_lt (Nat.lt_of_lt_of_le (by have := World.block_lt_of_cell? _ _ hw520_0; first | rwa [add_block] at this | exact this) GW527.out)) | (show (Addr.add _ _).block ≠ _; rw [add_block]; exact Nat.ne_of_lt (Nat.lt_of_lt_of_le (by have := World.block_lt_of_cell? _ _ hw520_0; first | rwa [add_block] at this | exact this) GW527.out)) | (dsimp only; exact Nat.ne_of_lt (Nat.lt_of_lt_of_le (by have := World.block_lt_of_cell? _ _ hw520_0; first | rwa [add_block] at this | exact this) GW527.out))) _).trans (((cell_far (p := ⟨gb527, _, none⟩) (by first | exact Nat.ne_of_lt (Nat.lt_of_lt_of_le (by have := World.block_lt_of_cell? _ _ hw520_0; first | rwa [add_block] at this | exact this) GW527.out) | (rw [add_block]; exact Nat.ne_of_lt (Nat.lt_of_lt_of_le (by have := World.block_lt_of_cell? _ _ hw520_0; first | rwa [add_block] at this | exact this) GW527.out)) | (show (Addr.add _ _).block ≠ _; rw [add_block]; exact Nat.ne_of_lt (Nat.lt_of_lt_of_le (by have := World.block_lt_of_cell? _ _ hw520_0; first | rwa [add_block] at this | exact this) GW527.out)) | (dsimp only; exact Nat.ne_of_lt (Nat.lt_of_lt_of_le (by have := World.block_lt_of_cell? _ _ hw520_0; first | rwa [add_block] at this | exact this) GW527.out))) _).trans (((cell_far (p := ⟨gb527, _, none⟩) (by first | exact Nat.ne_of_lt (Nat.lt_of_lt_of_le (by have := World.block_lt_of_cell? _ _ hw520_0; first | rwa [add_block] at this | exact this) GW527.out) | (rw [add_block]; exact Nat.ne_of_lt (Nat.lt_of_lt_of_le (by have := World.block_lt_of_cell? _ _ hw520_0; first | rwa [add_block] at this | exact this) GW527.out)) | (show (Addr.add _ _).block ≠ _; rw [add_block]; exact Nat.ne_of_lt (Nat.lt_of_lt_of_le (by have := World.block_lt_of_cell? _ _ hw520_0; first | rwa [add_block] at this | exact this) GW527.out)) | (dsimp only; exact Nat.ne_of_lt (Nat.lt_of_lt_of_le (by have := World.block_lt_of_cell? _ _ hw520_0; first | rwa [add_block] at this | exact this) GW527.out))) _).trans (hHeld.1)))))))), ((cell_far (p := ⟨gb527, _, none⟩) (by first | exact Nat.ne_of_lt (Nat.lt_of_lt_of_le (by have := World.block_lt_of_cell? _ _ hw520_1; first | rwa [add_block] at this | exact this) GW527.out) | (rw [add_block]; exact Nat.ne_of_lt (Nat.lt_of_lt_of_le (by have := World.block_lt_of_cell? _ _ hw520_1; first | rwa [add_block] at this | exact this) GW527.out)) | (show (Addr.add _ _).block ≠ _; rw [add_block]; exact Nat.ne_of_lt (Nat.lt_of_lt_of_le (by have := World.block_lt_of_cell? _ _ hw520_1; first | rwa [add_block] at this | exact this) GW527.out)) | (dsimp only; exact Nat.ne_of_lt (Nat.lt_of_lt_of_le (by have := World.block_lt_of_cell? _ _ hw520_1; first | rwa [add_block] at this | exact this) GW527.out))) _).trans (((cell_far (p := ⟨gb527, _, none⟩) (by first | exact Nat.ne_of_lt (Nat.lt_of_lt_of_le (by have := World.block_lt_of_cell? _ _ hw520_1; first | rwa [add_block] at this | exact this) GW527.out) | (rw [add_block]; exact Nat.ne_of_lt (Nat.lt_of_lt_of_le (by have := World.block_lt_of_cell? _ _ hw520_1; first | rwa [add_block] at this | exact this) GW527.out)) | (show (Addr.add _ _).block ≠ _; rw [add_block]; exact Nat.ne_of_lt (Nat.lt_of_lt_of_le (by have := World.block_lt_of_cell? _ _ hw520_1; first | rwa [add_block] at this | exact this) GW527.out)) | (dsimp only; exact Nat.ne_of_lt (Nat.lt_of_lt_of_le (by have := World.block_lt_of_cell? _ _ hw520_1; first | rwa [add_block] at this | exact this) GW527.out))) _).trans (((cell_far (p := ⟨gb527, _, none⟩) (by first | exact Nat.ne_of_lt (Nat.lt_of_lt_of_le (by have := World.block_lt_of_cell? _ _ hw520_1; first | rwa [add_block] at this | exact this) GW527.out) | (rw [add_block]; exact Nat.ne_of_lt (Nat.lt_of_lt_of_le (by have := World.block_lt_of_cell? _ _ hw520_1; first | rwa [add_block] at this | exact this) GW527.out)) | (show (Addr.add _ _).block ≠ _; rw [add_block]; exact Nat.ne_of_lt (Nat.lt_of_lt_of_le (by have := World.block_lt_of_cell? _ _ hw520_1; first | rwa [add_block] at this | exact this) GW527.out)) | (dsimp only; exact Nat.ne_of_lt (Nat.lt_of_lt_of_le (by have := World.block_lt_of_cell? _ _ hw520_1; first | rwa [add_block] at this | exact this) GW527.out))) _).trans (((cell_far (p := ⟨gb527, _, none⟩) (by first | exact Nat.ne_of_lt (Nat.lt_of_lt_of_le (by have := World.block_lt_of_cell? _ _ hw520_1; first | rwa [add_block] at this | exact this) GW527.out) | (rw [add_block]; exact Nat.ne_of_lt (Nat.lt_of_lt_of_le (by have := World.block_lt_of_cell? _ _ hw520_1; first | rwa [add_block] at this | exact this) GW527.out)) | (show (Addr.add _ _).block ≠ _; rw [add_block]; exact Nat.ne_of_lt (Nat.lt_of_lt_of_le (by have := World.block_lt_of_cell? _ _ hw520_1; first | rwa [add_block] at this | exact this) GW527.out)) | (dsimp only; exact Nat.ne_of_lt (Nat.lt_of_lt_of_le (by have := World.block_lt_of_cell? _ _ hw520_1; first | rwa [add_block] at this | exact this) GW527.out))) _).trans (hHeld.2.1)))))))), ((cell_far (p := ⟨gb527, _, none⟩) (by first | exact Nat.ne_of_lt (Nat.lt_of_lt_of_le (by have := World.block_lt_of_cell? _ _ hw520_2; first | rwa [add_block] at this | exact this) GW527.out) | (rw [add_block]; exact Nat.ne_of_lt (Nat.lt_of_lt_of_le (by have := World.block_lt_of_cell? _ _ hw520_2; first | rwa [add_block] at this | exact this) GW527.out)) | (show (Addr.add _ _).block ≠ _; rw [add_block]; exact Nat.ne_of_lt (Nat.lt_of_lt_of_le (by have := World.block_lt_of_cell? _ _ hw520_2; first | rwa [add_block] at this | exact this) GW527.out)) | (dsimp only; exact Nat.ne_of_lt (Nat.lt_of_lt_of_le (by have := World.block_lt_of_cell? _ _ hw520_2; first | rwa [add_block] at this | exact this) GW527.out))) _).trans (((cell_far (p := ⟨gb527, _, none⟩) (by first | exact Nat.ne_of_lt (Nat.lt_of_lt_of_le (by have := World.block_lt_of_cell? _ _ hw520_2; first | rwa [add_block] at this | exact this) GW527.out) | (rw [add_block]; exact Nat.ne_of_lt (Nat.lt_of_lt_of_le (by have := World.block_lt_of_cell? _ _ hw520_2; first | rwa [add_block] at this | exact this) GW527.out)) | (show (Addr.add _ _).block ≠ _; rw [add_block]; exact Nat.ne_of_lt (Nat.lt_of_lt_of_le (by have := World.block_lt_of_cell? _ _ hw520_2; first | rwa [add_block] at this | exact this) GW527.out)) | (dsimp only; exact Nat.ne_of_lt (Nat.lt_of_lt_of_le (by have := World.block_lt_of_cell? _ _ hw520_2; first | rwa [add_block] at this | exact this) GW527.out))) _).trans (((cell_far (p := ⟨gb527, _, none⟩) (by first | exact Nat.ne_of_lt (Nat.lt_of_lt_of_le (by have := World.block_lt_of_cell? _ _ hw520_2; first | rwa [add_block] at this | exact this) GW527.out) | (rw [add_block]; exact Nat.ne_of_lt (Nat.lt_of_lt_of_le (by have := World.block_lt_of_cell? _ _ hw520_2; first | rwa [add_block] at this | exact this) GW527.out)) | (show (Addr.add _ _).block ≠ _; rw [add_block]; exact Nat.ne_of_lt (Nat.lt_of_lt_of_le (by have := World.block_lt_of_cell? _ _ hw520_2; first | rwa [add_block] at this | exact this) GW527.out)) | (dsimp only; exact Nat.ne_of_lt (Nat.lt_of_lt_of_le (by have := World.block_lt_of_cell? _ _ hw520_2; first | rwa [add_block] at this | exact this) GW527.out))) _).trans (((cell_far (p := ⟨gb527, _, none⟩) (by first | exact Nat.ne_of_lt (Nat.lt_of_lt_of_le (by have := World.block_lt_of_cell? _ _ hw520_2; first | rwa [add_block] at this | exact this) GW527.out) | (rw [add_block]; exact Nat.ne_of_lt (Nat.lt_of_lt_of_le (by have := World.block_lt_of_cell? _ _ hw520_2; first | rwa [add_block] at this | exact this) GW527.out)) | (show (Addr.add _ _).block ≠ _; rw [add_block]; exact Nat.ne_of_lt (Nat.lt_of_lt_of_le (by have := World.block_lt_of_cell? _ _ hw520_2; first | rwa [add_block] at this | exact this) GW527.out)) | (dsimp only; exact Nat.ne_of_lt (Nat.lt_of_lt_of_le (by have := World.block_lt_of_cell? _ _ hw520_2; first | rwa [add_block] at this | exact this) GW527.out))) _).trans (hHeld.2.2.1)))))))), ((cell_far (p := ⟨gb527, _, none⟩) (by first | exact Nat.ne_of_lt (Nat.lt_of_lt_of_le (by have := World.block_lt_of_cell? _ _ hw520_3; first | rwa [add_block] at this | exact this) GW527.out) | (rw [add_block]; exact Nat.ne_of_lt (Nat.lt_of_lt_of_le (by have := World.block_lt_of_cell? _ _ hw520_3; first | rwa [add_block] at this | exact this) GW527.out)) | (show (Addr.add _ _).block ≠ _; rw [add_block]; exact Nat.ne_of_lt (Nat.lt_of_lt_of_le (by have := World.block_lt_of_cell? _ _ hw520_3; first | rwa [add_block] at this | exact this) GW527.out)) | (dsimp only; exact Nat.ne_of_lt (Nat.lt_of_lt_of_le (by have := World.block_lt_of_cell? _ _ hw520_3; first | rwa [add_block] at this | exact this) GW527.out))) _).trans (((cell_far (p := ⟨gb527, _, none⟩) (by first | exact Nat.ne_of_lt (Nat.lt_of_lt_of_le (by have := World.block_lt_of_cell? _ _ hw520_3; first | rwa [add_block] at this | exact this) GW527.out) | (rw [add_block]; exact Nat.ne_of_lt (Nat.lt_of_lt_of_le (by have := World.block_lt_of_cell? _ _ hw520_3; first | rwa [add_block] at this | exact this) GW527.out)) | (show (Addr.add _ _).block ≠ _; rw [add_block]; exact Nat.ne_of_lt (Nat.lt_of_lt_of_le (by have := World.block_lt_of_cell? _ _ hw520_3; first | rwa [add_block] at this | exact this) GW527.out)) | (dsimp only; exact Nat.ne_of_lt (Nat.lt_of_lt_of_le (by have := World.block_lt_of_cell? _ _ hw520_3; first | rwa [add_block] at this | exact this) GW527.out))) _).trans (((cell_far (p := ⟨gb527, _, none⟩) (by first | exact Nat.ne_of_lt (Nat.lt_of_lt_of_le (by have := World.block_lt_of_cell? _ _ hw520_3; first | rwa [add_block] at this | exact this) GW527.out) | (rw [add_block]; exact Nat.ne_of_lt (Nat.lt_of_lt_of_le (by have := World.block_lt_of_cell? _ _ hw520_3; first | rwa [add_block] at this | exact this) GW527.out)) | (show (Addr.add _ _).block ≠ _; rw [add_block]; exact Nat.ne_of_lt (Nat.lt_of_lt_of_le (by have := World.block_lt_of_cell? _ _ hw520_3; first | rwa [add_block] at this | exact this) GW527.out)) | (dsimp only; exact Nat.ne_of_lt (Nat.lt_of_lt_of_le (by have := World.block_lt_of_cell? _ _ hw520_3; first | rwa [add_block] at this | exact this) GW527.out))) _).trans (((cell_far (p := ⟨gb527, _, none⟩) (by first | exact Nat.ne_of_lt (Nat.lt_of_lt_of_le (by have := World.block_lt_of_cell? _ _ hw520_3; first | rwa [add_block] at this | exact this) GW527.out) | (rw [add_block]; exact Nat.ne_of_lt (Nat.lt_of_lt_of_le (by have := World.block_lt_of_cell? _ _ hw520_3; first | rwa [add_block] at this | exact this) GW527.out)) | (show (Addr.add _ _).block ≠ _; rw [add_block]; exact Nat.ne_of_lt (Nat.lt_of_lt_of_le (by have := World.block_lt_of_cell? _ _ hw520_3; first | rwa [add_block] at this | exact this) GW527.out)) | (dsimp only; exact Nat.ne_of_lt (Nat.lt_of_lt_of_le (by have := World.block_lt_of_cell? _ _ hw520_3; first | rwa [add_block] at this | exact this) GW527.out))) _).trans (hHeld.2.2.2.1)))))))), ((cell_far (p := ⟨gb527, _, none⟩) (by first | exact Nat.ne_of_lt (Nat.lt_of_lt_of_le (by have := World.block_lt_of_cell? _ _ hw521_0; first | rwa [add_block] at this | exact this) GW527.out) | (rw [add_block]; exact Nat.ne_of_lt (Nat.lt_of_lt_of_le (by have := World.block_lt_of_cell? _ _ hw521_0; first | rwa [add_block] at this | exact this) GW527.out)) | (show (Addr.add _ _).block ≠ _; rw [add_block]; exact Nat.ne_of_lt (Nat.lt_of_lt_of_le (by have := World.block_lt_of_cell? _ _ hw521_0; first | rwa [add_block] at this | exact this) GW527.out)) | (dsimp only; exact Nat.ne_of_lt (Nat.lt_of_lt_of_le (by have := World.block_lt_of_cell? _ _ hw521_0; first | rwa [add_block] at this | exact this) GW527.out))) _).trans (((cell_far (p := ⟨gb527, _, none⟩) (by first | exact Nat.ne_of_lt (Nat.lt_of_lt_of_le (by have := World.block_lt_of_cell? _ _ hw521_0; first | rwa [add_block] at this | exact this) GW527.out) | (rw [add_block]; exact Nat.ne_of_lt (Nat.lt_of_lt_of_le (by have := World.block_lt_of_cell? _ _ hw521_0; first | rwa [add_block] at this | exact this) GW527.out)) | (show (Addr.add _ _).block ≠ _; rw [add_block]; exact Nat.ne_of_lt (Nat.lt_of_lt_of_le (by have := World.block_lt_of_cell? _ _ hw521_0; first | rwa [add_block] at this | exact this) GW527.out)) | (dsimp only; exact Nat.ne_of_lt (Nat.lt_of_lt_of_le (by have := World.block_lt_of_cell? _ _ hw521_0; first | rwa [add_block] at this | exact this) GW527.out))) _).trans (((cell_far (p := ⟨gb527, _, none⟩) (by first | exact Nat.ne_of_lt (Nat.lt_of_lt_of_le (by have := World.block_lt_of_cell? _ _ hw521_0; first | rwa [add_block] at this | exact this) GW527.out) | (rw [add_block]; exact Nat.ne_of_lt (Nat.lt_of_lt_of_le (by have := World.block_lt_of_cell? _ _ hw521_0; first | rwa [add_block] at this | exact this) GW527.out)) | (show (Addr.add _ _).block ≠ _; rw [add_block]; exact Nat.ne_of_lt (Nat.lt_of_lt_of_le (by have := World.block_lt_of_cell? _ _ hw521_0; first | rwa [add_block] at this | exact this) GW527.out)) | (dsimp only; exact Nat.ne_of_lt (Nat.lt_of_lt_of_le (by have := World.block_lt_of_cell? _ _ hw521_0; first | rwa [add_block] at this | exact this) GW527.out))) _).trans (((cell_far (p := ⟨gb527, _, none⟩) (by first | exact Nat.ne_of_lt (Nat.lt_of_lt_of_le (by have := World.block_lt_of_cell? _ _ hw521_0; first | rwa [add_block] at this | exact this) GW527.out) | (rw [add_block]; exact Nat.ne_of_lt (Nat.lt_of_lt_of_le (by have := World.block_lt_of_cell? _ _ hw521_0; first | rwa [add_block] at this | exact this) GW527.out)) | (show (Addr.add _ _).block ≠ _; rw [add_block]; exact Nat.ne_of_lt (Nat.lt_of_lt_of_le (by have := World.block_lt_of_cell? _ _ hw521_0; first | rwa [add_block] at this | exact this) GW527.out)) | (dsimp only; exact Nat.ne_of_lt (Nat.lt_of_lt_of_le (by have := World.block_lt_of_cell? _ _ hw521_0; first | rwa [add_block] at this | exact this) GW527.out))) _).trans (hHeld.2.2.2.2.1)))))))), ((cell_far (p := ⟨gb527, _, none⟩) (by first | exact Nat.ne_of_lt (Nat.lt_of_lt_of_le (by have := World.block_lt_of_cell? _ _ hw521_1; first | rwa [add_block] at this | exact this) GW527.out) | (rw [add_block]; exact Nat.ne_of_lt (Nat.lt_of_lt_of_le (by have := World.block_lt_of_cell? _ _ hw521_1; first | rwa [add_block] at this | exact this) GW527.out)) | (show (Addr.add _ _).block ≠ _; rw [add_block]; exact Nat.ne_of_lt (Nat.lt_of_lt_of_le (by have := World.block_lt_of_cell? _ _ hw521_1; first | rwa [add_block] at this | exact this) GW527.out)) | (dsimp only; exact Nat.ne_of_lt (Nat.lt_of_lt_of_le (by have := World.block_lt_of_cell? _ _ hw521_1; first | rwa [add_block] at this | exact this) GW527.out))) _).trans (((cell_far (p := ⟨gb527, _, none⟩) (by first | exact Nat.ne_of_lt (Nat.lt_of_lt_of_le (by have := World.block_lt_of_cell? _ _ hw521_1; first | rwa [add_block] at this | exact this) GW527.out) | (rw [add_block]; exact Nat.ne_of_lt (Nat.lt_of_lt_of_le (by have := World.block_lt_of_cell? _ _ hw521_1; first | rwa [add_block] at this | exact this) GW527.out)) | (show (Addr.add _ _).block ≠ _; rw [add_block]; exact Nat.ne_of_lt (Nat.lt_of_lt_of_le (by have := World.block_lt_of_cell? _ _ hw521_1; first | rwa [add_block] at this | exact this) GW527.out)) | (dsimp only; exact Nat.ne_of_lt (Nat.lt_of_lt_of_le (by have := World.block_lt_of_cell? _ _ hw521_1; first | rwa [add_block] at this | exact this) GW527.out))) _).trans (((cell_far (p := ⟨gb527, _, none⟩) (by first | exact Nat.ne_of_lt (Nat.lt_of_lt_of_le (by have := World.block_lt_of_cell? _ _ hw521_1; first | rwa [add_block] at this | exact this) GW527.out) | (rw [add_block]; exact Nat.ne_of_lt (Nat.lt_of_lt_of_le (by have := World.block_lt_of_cell? _ _ hw521_1; first | rwa [add_block] at this | exact this) GW527.out)) | (show (Addr.add _ _).block ≠ _; rw [add_block]; exact Nat.ne_of_lt (Nat.lt_of_lt_of_le (by have := World.block_lt_of_cell? _ _ hw521_1; first | rwa [add_block] at this | exact this) GW527.out)) | (dsimp only; exact Nat.ne_of_lt (Nat.lt_of_lt_of_le (by have := World.block_lt_of_cell? _ _ hw521_1; first | rwa [add_block] at this | exact this) GW527.out))) _).trans (((cell_far (p := ⟨gb527, _, none⟩) (by first | exact Nat.ne_of_lt (Nat.lt_of_lt_of_le (by have := World.block_lt_of_cell? _ _ hw521_1; first | rwa [add_block] at this | exact this) GW527.out) | (rw [add_block]; exact Nat.ne_of_lt (Nat.lt_of_lt_of_le (by have := World.block_lt_of_cell? _ _ hw521_1; first | rwa [add_block] at this | exact this) GW527.out)) | (show (Addr.add _ _).block ≠ _; rw [add_block]; exact Nat.ne_of_lt (Nat.lt_of_lt_of_le (by have := World.block_lt_of_cell? _ _ hw521_1; first | rwa [add_block] at this | exact this) GW527.out)) | (dsimp only; exact Nat.ne_of_lt (Nat.lt_of_lt_of_le (by have := World.block_lt_of_cell? _ _ hw521_1; first | rwa [add_block] at this | exact this) GW527.out))) _).trans (hHeld.2.2.2.2.2.1)))))))), ((cell_far (p := ⟨gb527, _, none⟩) (by first | exact Nat.ne_of_lt (Nat.lt_of_lt_of_le (by have := World.block_lt_of_cell? _ _ hw521_2; first | rwa [add_block] at this | exact this) GW527.out) | (rw [add_block]; exact Nat.ne_of_lt (Nat.lt_of_lt_of_le (by have := World.block_lt_of_cell? _ _ hw521_2; first | rwa [add_block] at this | exact this) GW527.out)) | (show (Addr.add _ _).block ≠ _; rw [add_block]; exact Nat.ne_of_lt (Nat.lt_of_lt_of_le (by have := World.block_lt_of_cell? _ _ hw521_2; first | rwa [add_block] at this | exact this) GW527.out)) | (dsimp only; exact Nat.ne_of_lt (Nat.lt_of_lt_of_le (by have := World.block_lt_of_cell? _ _ hw521_2; first | rwa [add_block] at this | exact this) GW527.out))) _).trans (((cell_far (p := ⟨gb527, _, none⟩) (by first | exact Nat.ne_of_lt (Nat.lt_of_lt_of_le (by have := World.block_lt_of_cell? _ _ hw521_2; first | rwa [add_block] at this | exact this) GW527.out) | (rw [add_block]; exact Nat.ne_of_lt (Nat.lt_of_lt_of_le (by have := World.block_lt_of_cell? _ _ hw521_2; first | rwa [add_block] at this | exact this) GW527.out)) | (show (Addr.add _ _).block ≠ _; rw [add_block]; exact Nat.ne_of_lt (Nat.lt_of_lt_of_le (by have := World.block_lt_of_cell? _ _ hw521_2; first | rwa [add_block] at this | exact this) GW527.out)) | (dsimp only; exact Nat.ne_of_lt (Nat.lt_of_lt_of_le (by have := World.block_lt_of_cell? _ _ hw521_2; first | rwa [add_block] at this | exact this) GW527.out))) _).trans (((cell_far (p := ⟨gb527, _, none⟩) (by first | exact Nat.ne_of_lt (Nat.lt_of_lt_of_le (by have := World.block_lt_of_cell? _ _ hw521_2; first | rwa [add_block] at this | exact this) GW527.out) | (rw [add_block]; exact Nat.ne_of_lt (Nat.lt_of_lt_of_le (by have := World.block_lt_of_cell? _ _ hw521_2; first | rwa [add_block] at this | exact this) GW527.out)) | (show (Addr.add _ _).block ≠ _; rw [add_block]; exact Nat.ne_of_lt (Nat.lt_of_lt_of_le (by have := World.block_lt_of_cell? _ _ hw521_2; first | rwa [add_block] at this | exact this) GW527.out)) | (dsimp only; exact Nat.ne_of_lt (Nat.lt_of_lt_of_le (by have := World.block_lt_of_cell? _ _ hw521_2; first | rwa [add_block] at this | exact this) GW527.out))) _).trans (((cell_far (p := ⟨gb527, _, none⟩) (by first | exact Nat.ne_of_lt (Nat.lt_of_lt_of_le (by have := World.block_lt_of_cell? _ _ hw521_2; first | rwa [add_block] at this | exact this) GW527.out) | (rw [add_block]; exact Nat.ne_of_lt (Nat.lt_of_lt_of_le (by have := World.block_lt_of_cell? _ _ hw521_2; first | rwa [add_block] at this | exact this) GW527.out)) | (show (Addr.add _ _).block ≠ _; rw [add_block]; exact Nat.ne_of_lt (Nat.lt_of_lt_of_le (by have := World.block_lt_of_cell? _ _ hw521_2; first | rwa [add_block] at this | exact this) GW527.out)) | (dsimp only; exact Nat.ne_of_lt (Nat.lt_of_lt_of_le (by have := World.block_lt_of_cell? _ _ hw521_2; first | rwa [add_block] at this | exact this) GW527.out))) _).trans (hHeld.2.2.2.2.2.2.1)))))))), ((cell_far (p := ⟨gb527, _, none⟩) (by first | exact Nat.ne_of_lt (Nat.lt_of_lt_of_le (by have := World.block_lt_of_cell? _ _ hw521_3; first | rwa [add_block] at this | exact this) GW527.out) | (rw [add_block]; exact Nat.ne_of_lt (Nat.lt_of_lt_of_le (by have := World.block_lt_of_cell? _ _ hw521_3; first | rwa [add_block] at this | exact this) GW527.out)) | (show (Addr.add _ _).block ≠ _; rw [add_block]; exact Nat.ne_of_lt (Nat.lt_of_lt_of_le (by have := World.block_lt_of_cell? _ _ hw521_3; first | rwa [add_block] at this | exact this) GW527.out)) | (dsimp only; exact Nat.ne_of_lt (Nat.lt_of_lt_of_le (by have := World.block_lt_of_cell? _ _ hw521_3; first | rwa [add_block] at this | exact this) GW527.out))) _).trans (((cell_far (p := ⟨gb527, _, none⟩) (by first | exact Nat.ne_of_lt (Nat.lt_of_lt_of_le (by have := World.block_lt_of_cell? _ _ hw521_3; first | rwa [add_block] at this | exact this) GW527.out) | (rw [add_block]; exact Nat.ne_of_lt (Nat.lt_of_lt_of_le (by have := World.block_lt_of_cell? _ _ hw521_3; first | rwa [add_block] at this | exact this) GW527.out)) | (show (Addr.add _ _).block ≠ _; rw [add_block]; exact Nat.ne_of_lt (Nat.lt_of_lt_of_le (by have := World.block_lt_of_cell? _ _ hw521_3; first | rwa [add_block] at this | exact this) GW527.out)) | (dsimp only; exact Nat.ne_of_lt (Nat.lt_of_lt_of_le (by have := World.block_lt_of_cell? _ _ hw521_3; first | rwa [add_block] at this | exact this) GW527.out))) _).trans (((cell_far (p := ⟨gb527, _, none⟩) (by first | exact Nat.ne_of_lt (Nat.lt_of_lt_of_le (by have := World.block_lt_of_cell? _ _ hw521_3; first | rwa [add_block] at this | exact this) GW527.out) | (rw [add_block]; exact Nat.ne_of_lt (Nat.lt_of_lt_of_le (by have := World.block_lt_of_cell? _ _ hw521_3; first | rwa [add_block] at this | exact this) GW527.out)) | (show (Addr.add _ _).block ≠ _; rw [add_block]; exact Nat.ne_of_lt (Nat.lt_of_lt_of_le (by have := World.block_lt_of_cell? _ _ hw521_3; first | rwa [add_block] at this | exact this) GW527.out)) | (dsimp only; exact Nat.ne_of_lt (Nat.lt_of_lt_of_le (by have := World.block_lt_of_cell? _ _ hw521_3; first | rwa [add_block] at this | exact this) GW527.out))) _).trans (((cell_far (p := ⟨gb527, _, none⟩) (by first | exact Nat.ne_of_lt (Nat.lt_of_lt_of_le (by have := World.block_lt_of_cell? _ _ hw521_3; first | rwa [add_block] at this | exact this) GW527.out) | (rw [add_block]; exact Nat.ne_of_lt (Nat.lt_of_lt_of_le (by have := World.block_lt_of_cell? _ _ hw521_3; first | rwa [add_block] at this | exact this) GW527.out)) | (show (Addr.add _ _).block ≠ _; rw [add_block]; exact Nat.ne_of_lt (Nat.lt_of_lt_of_le (by have := World.block_lt_of_cell? _ _ hw521_3; first | rwa [add_block] at this | exact this) GW527.out)) | (dsimp only; exact Nat.ne_of_lt (Nat.lt_of_lt_of_le (by have := World.block_lt_of_cell? _ _ hw521_3; first | rwa [add_block] at this | exact this) GW527.out))) _).trans (hHeld.2.2.2.2.2.2.2))))))))⟩ (fun hHeld => ?_)
                                clear hK K
                                refine pure_ (i := 14) (N := some 12) (v := ?_) (a' := ?_) #[true, true, true, true, true, true, true, true, true, true, true, true, true, true, true] rfl rfl (any_of HT_.out (by kernel_rfl)) (fun _ _ _ h => h) (Or.inl ⟨by rfl, ?_⟩) ?_ ?_
                                rotate_left
                                · intro w'
                                  go_simp
                                  with_reducible rfl
                                rotate_left
                                · simp only [Act.put, List.setIfInBounds_toArray, List.set_cons_zero, List.set_cons_succ, i64_w, i32_w]
                                  rfl
                                refine done_ (done_of HT_.out (by kernel_rfl)) ?_
                                have hcz32_0 : w27.cell? ⟨gb527, 0, none⟩ = some (.int .i64 0) := (blk_cell BK527.out 0).trans rfl
                                have hcz32_1 : w27.cell? ⟨gb527, 1, none⟩ = some (.int .i64 0) := (blk_cell BK527.out 1).trans rfl
                                have hcz32_2 : w27.cell? ⟨gb527, 2, none⟩ = some (.int .i64 0) := (blk_cell BK527.out 2).trans rfl
                                have hcz32_3 : w27.cell? ⟨gb527, 3, none⟩ = some (.int .i64 0) := (blk_cell BK527.out 3).trans rfl
                                have hfz32_0 := blk_frozen BK527.out 0
                                have hfz32_1 := blk_frozen BK527.out 1
                                have hfz32_2 := blk_frozen BK527.out 2
                                have hfz32_3 := blk_frozen BK527.out 3
                                obtain ⟨Ao33, co33, eo33⟩ := Kd.R_slice HO_5.out
                                subst eo33
                                try go_wp2_with (first | (go_at_call 75; (with_reducible refine (spec_l06Matrix.calls k3 _ _ x5_1 t522 t523 t524 t525 t528 _ ?side1 ?side2 A22.out).mono ?_); (case side1 => refine (Kd.R_reads' (e := 25) (base := w.heap.size) (ok := fun k_ => k_ ≠ gb527) (n := x5_1.length) (c := co33) ?_).2.2; exact (by (with_reducible repeat (first | apply Kd.R_alloc | apply Kd.R_drewN | apply Kd.R_drew)); exact (Kd.R_mono (Kd.R_far (p := ⟨gb527, 3, none⟩) (Kd.R_far (p := ⟨gb527, 2, none⟩) (Kd.R_far (p := ⟨gb527, 1, none⟩) (Kd.R_far (p := ⟨gb527, 0, none⟩) (Kd.R_mono HO_5.out (fun k_ hk => (⟨hk, hk⟩ : _ ∧ k_ ≠ gb527))) (fun _ hk => hk.2) (.int .i64 t522)) (fun _ hk => hk.2) (.int .i64 t523)) (fun _ hk => hk.2) (.int .i64 t524)) (fun _ hk => hk.2) (.int .i64 t525)) (fun _ h_ => h_.1)))); (case side2 => exact (Kd.R_reads' HO_5.out).2.1); rintro e w34 ⟨rfl, hb⟩; have n0_ := Aside0.mk (Kd.R_below (by (with_reducible repeat (first | apply Kd.R_alloc | apply Kd.R_drewN | apply Kd.R_drew)); exact (Kd.R_mono (Kd.R_far (p := ⟨gb527, 3, none⟩) (Kd.R_far (p := ⟨gb527, 2, none⟩) (Kd.R_far (p := ⟨gb527, 1, none⟩) (Kd.R_far (p := ⟨gb527, 0, none⟩) (Kd.R_mono HO_5.out (fun k_ hk => (⟨hk, hk⟩ : _ ∧ k_ ≠ gb527))) (fun _ hk => hk.2) (.int .i64 t522)) (fun _ hk => hk.2) (.int .i64 t523)) (fun _ hk => hk.2) (.int .i64 t524)) (fun _ hk => hk.2) (.int .i64 t525)) (fun _ h_ => h_.1))) hb); have n1_ := Aside0.mk (blk_below (g := gb527) (o := .cells #[.int .i64 t522, .int .i64 t523, .int .i64 t524, .int .i64 t525] 25 (0, 0)) (by (with_reducible repeat (first | refine blk_drewN ?_ _ | refine blk_drew ?_ | refine blk_alloc ?_ _)); refine blk_put (cs := #[.int .i64 t522, .int .i64 t523, .int .i64 t524, .int .i64 0]) ?_ 3 _ rfl; (with_reducible repeat (first | refine blk_drewN ?_ _ | refine blk_drew ?_ | refine blk_alloc ?_ _)); refine blk_put (cs := #[.int .i64 t522, .int .i64 t523, .int .i64 0, .int .i64 0]) ?_ 2 _ rfl; (with_reducible repeat (first | refine blk_drewN ?_ _ | refine blk_drew ?_ | refine blk_alloc ?_ _)); refine blk_put (cs := #[.int .i64 t522, .int .i64 0, .int .i64 0, .int .i64 0]) ?_ 1 _ rfl; (with_reducible repeat (first | refine blk_drewN ?_ _ | refine blk_drew ?_ | refine blk_alloc ?_ _)); refine blk_put (cs := #[.int .i64 0, .int .i64 0, .int .i64 0, .int .i64 0]) ?_ 0 _ rfl; (with_reducible repeat (first | refine blk_drewN ?_ _ | refine blk_drew ?_ | refine blk_alloc ?_ _)); exact BK527.out) hb); have n2_ := Aside0.mk (below_step blA hb); clear HO_5; clear BK527; clear HB; have HO_5 := n0_; have BK527 := n1_; have HB := n2_; clear n0_ n1_ n2_; (try clear hb); (try clear hb2); (try clear hk); (try clear hi)))
                                go_ret2
                                exact ⟨by first | rfl | (simp [errW_none, errW_some] <;> rfl) | (simp [*, errW_none, errW_some] <;> rfl), blA⟩
                              · rw [if_neg c23] at H
                                have c23b0 : decide (t528 < 0) = false := decide_eq_false c23
                                clear c23
                                have H' := Aside0.mk H
                                clear H
                                try go_wp2
                                have n0_ := Aside0.mk (Kd.R_drew HO_5.out)
                                have n1_ := Aside0.mk (below_drew1 HB.out)
                                clear HO_5
                                clear HB
                                have HO_5 := n0_
                                have HB := n1_
                                clear n0_ n1_
                                have p520 : 0 ≤ (x9_2 : Int) := of_decide_eq_true (by first | (with_reducible assumption) | assumption)
                                have q520 : x9_2 < (l0.length : Int) := of_decide_eq_true (by first | (with_reducible assumption) | assumption)
                                obtain ⟨ad520, e520, hx520_0, hx520_1, hx520_2, hx520_3⟩ := at_T25 HR0.out x9_2 p520 q520
                                have hw520_3 := hx520_3
                                have hw520_2 := hx520_2
                                have hw520_1 := hx520_1
                                have hw520_0 := hx520_0
                                cases e520
                                replace hx520_0 := (HB.out.cell (World.block_lt_of_cell? w _ hx520_0)).trans hx520_0
                                replace hx520_1 := (HB.out.cell (World.block_lt_of_cell? w _ hx520_1)).trans hx520_1
                                replace hx520_2 := (HB.out.cell (World.block_lt_of_cell? w _ hx520_2)).trans hx520_2
                                replace hx520_3 := (HB.out.cell (World.block_lt_of_cell? w _ hx520_3)).trans hx520_3
                                replace p520 := eq_true p520
                                replace q520 := eq_true q520
                                have p521 : 0 ≤ (x10_3 : Int) := of_decide_eq_true (by first | (with_reducible assumption) | assumption)
                                have q521 : x10_3 < (l0.length : Int) := of_decide_eq_true (by first | (with_reducible assumption) | assumption)
                                obtain ⟨ad521, e521, hx521_0, hx521_1, hx521_2, hx521_3⟩ := at_T25 HR0.out x10_3 p521 q521
                                have hw521_3 := hx521_3
                                have hw521_2 := hx521_2
                                have hw521_1 := hx521_1
                                have hw521_0 := hx521_0
                                obtain rfl : ad520 = ad521 := (by injection e521)
                                replace hx521_0 := (HB.out.cell (World.block_lt_of_cell? w _ hx521_0)).trans hx521_0
                                replace hx521_1 := (HB.out.cell (World.block_lt_of_cell? w _ hx521_1)).trans hx521_1
                                replace hx521_2 := (HB.out.cell (World.block_lt_of_cell? w _ hx521_2)).trans hx521_2
                                replace hx521_3 := (HB.out.cell (World.block_lt_of_cell? w _ hx521_3)).trans hx521_3
                                replace p521 := eq_true p521
                                replace q521 := eq_true q521
                                refine start_ (n := 15) (S := fun w' => w'.cell? (ad520.add ((x9_2).toNat * 4)) = some (.int .i64 ((rd_T25 l0 x9_2).f0.f0)) ∧ w'.cell? ⟨(ad520.add ((x9_2).toNat * 4)).block, (ad520.add ((x9_2).toNat * 4)).off + 1, none⟩ = some (.int .i64 ((rd_T25 l0 x9_2).f0.f1)) ∧ w'.cell? ⟨(ad520.add ((x9_2).toNat * 4)).block, (ad520.add ((x9_2).toNat * 4)).off + 2, none⟩ = some (.int .i64 ((rd_T25 l0 x9_2).f1.f0)) ∧ w'.cell? ⟨(ad520.add ((x9_2).toNat * 4)).block, (ad520.add ((x9_2).toNat * 4)).off + 3, none⟩ = some (.int .i64 ((rd_T25 l0 x9_2).f1.f1)) ∧ w'.cell? (ad520.add ((x10_3).toNat * 4)) = some (.int .i64 ((rd_T25 l0 x10_3).f0.f0)) ∧ w'.cell? ⟨(ad520.add ((x10_3).toNat * 4)).block, (ad520.add ((x10_3).toNat * 4)).off + 1, none⟩ = some (.int .i64 ((rd_T25 l0 x10_3).f0.f1)) ∧ w'.cell? ⟨(ad520.add ((x10_3).toNat * 4)).block, (ad520.add ((x10_3).toNat * 4)).off + 2, none⟩ = some (.int .i64 ((rd_T25 l0 x10_3).f1.f0)) ∧ w'.cell? ⟨(ad520.add ((x10_3).toNat * 4)).block, (ad520.add ((x10_3).toNat * 4)).off + 3, none⟩ = some (.int .i64 ((rd_T25 l0 x10_3).f1.f1))) (ds := []) #[false, false, false, false, false, false, false, false, false, false, false, false, false, false, false] (by kernel_rfl) rfl rfl ⟨((HB.out.cell (World.block_lt_of_cell? w _ hw520_0)).trans hw520_0), ((HB.out.cell (World.block_lt_of_cell? w _ hw520_1)).trans hw520_1), ((HB.out.cell (World.block_lt_of_cell? w _ hw520_2)).trans hw520_2), ((HB.out.cell (World.block_lt_of_cell? w _ hw520_3)).trans hw520_3), ((HB.out.cell (World.block_lt_of_cell? w _ hw521_0)).trans hw521_0), ((HB.out.cell (World.block_lt_of_cell? w _ hw521_1)).trans hw521_1), ((HB.out.cell (World.block_lt_of_cell? w _ hw521_2)).trans hw521_2), ((HB.out.cell (World.block_lt_of_cell? w _ hw521_3)).trans hw521_3)⟩ (fun hHeld => ?_); refine with_tabW spec_IsClosedList.tab16 spec_IsClosedList.bits16 (fun HT_ HW_ => ?_)
                                generalize wr.drew = w35 at HO_5 HB hx520_0 hx520_1 hx520_2 hx520_3 hx521_0 hx521_1 hx521_2 hx521_3 hHeld ⊢
                                refine pure_ (i := 0) (N := some 50) (v := ?_) (a' := ?_) #[true, false, false, false, false, false, false, false, false, false, false, false, false, false, false] rfl rfl (any_of HT_.out (by kernel_rfl)) (fun _ _ _ h => h) (Or.inl ⟨by rfl, ?_⟩) ?_ ?_
                                rotate_left
                                · intro w'
                                  go_simp
                                  with_reducible rfl
                                rotate_left
                                · simp only [Act.put, List.setIfInBounds_toArray, List.set_cons_zero, List.set_cons_succ, i64_w, i32_w]
                                  rfl
                                refine pure_ (i := 1) (N := some 51) (v := ?_) (a' := ?_) #[true, true, false, false, false, false, false, false, false, false, false, false, false, false, false] rfl rfl (any_of HT_.out (by kernel_rfl)) (fun _ _ _ h => h) (Or.inl ⟨by rfl, ?_⟩) ?_ ?_
                                rotate_left
                                · intro w'
                                  go_simp
                                  with_reducible rfl
                                rotate_left
                                · simp only [Act.put, List.setIfInBounds_toArray, List.set_cons_zero, List.set_cons_succ, i64_w, i32_w]
                                  rfl
                                refine pure_ (i := 2) (N := some 52) (v := ?_) (a' := ?_) #[true, true, true, false, false, false, false, false, false, false, false, false, false, false, false] rfl rfl (any_of HT_.out (by kernel_rfl)) (fun _ _ _ h => h) (Or.inl ⟨by rfl, ?_⟩) ?_ ?_
                                rotate_left
                                · intro w'
                                  go_simp
                                  with_reducible rfl
                                rotate_left
                                · simp only [Act.put, List.setIfInBounds_toArray, List.set_cons_zero, List.set_cons_succ, i64_w, i32_w]
                                  rfl
                                refine pure_ (i := 4) (N := some 54) (v := ?_) (a' := ?_) #[true, true, true, false, true, false, false, false, false, false, false, false, false, false, false] rfl rfl (any_of HT_.out (by kernel_rfl)) (fun _ _ _ h => h) (Or.inl ⟨by rfl, ?_⟩) ?_ ?_
                                rotate_left
                                · intro w'
                                  go_simp
                                  with_reducible rfl
                                rotate_left
                                · simp only [Act.put, List.setIfInBounds_toArray, List.set_cons_zero, List.set_cons_succ, i64_w, i32_w]
                                  rfl
                                refine pure_ (i := 5) (N := some 55) (v := ?_) (a' := ?_) #[true, true, true, false, true, true, false, false, false, false, false, false, false, false, false] rfl rfl (any_of HT_.out (by kernel_rfl)) (fun _ _ _ h => h) (Or.inl ⟨by rfl, ?_⟩) ?_ ?_
                                rotate_left
                                · intro w'
                                  go_simp
                                  with_reducible rfl
                                rotate_left
                                · simp only [Act.put, List.setIfInBounds_toArray, List.set_cons_zero, List.set_cons_succ, i64_w, i32_w]
                                  rfl
                                refine pure_ (i := 6) (N := some 56) (v := ?_) (a' := ?_) #[true, true, true, false, true, true, true, false, false, false, false, false, false, false, false] rfl rfl (any_of HT_.out (by kernel_rfl)) (fun _ _ _ h => h) (Or.inl ⟨by rfl, ?_⟩) ?_ ?_
                                rotate_left
                                · intro w'
                                  go_simp
                                  with_reducible rfl
                                rotate_left
                                · simp only [Act.put, List.setIfInBounds_toArray, List.set_cons_zero, List.set_cons_succ, i64_w, i32_w]
                                  rfl
                                refine take_ (i := 3) (N := some 53) (v := ?_) (a' := ?_) #[true, true, true, true, true, true, true, false, false, false, false, false, false, false, false] rfl rfl (take_ofW HT_.out HW_.out (by kernel_rfl)) (fun _ _ _ h => h) (Or.inl ⟨by rfl, ?_⟩) hHeld ?_ ?_
                                rotate_left
                                · rintro w' ⟨s0, s1, s2, s3, s4, s5, s6, s7⟩
                                  go_simp
                                  with_reducible rfl
                                rotate_left
                                · simp only [Act.put, List.setIfInBounds_toArray, List.set_cons_zero, List.set_cons_succ, i64_w, i32_w]
                                  rfl
                                refine take_ (i := 7) (N := some 57) (v := ?_) (a' := ?_) #[true, true, true, true, true, true, true, true, false, false, false, false, false, false, false] rfl rfl (take_ofW HT_.out HW_.out (by kernel_rfl)) (fun _ _ _ h => h) (Or.inl ⟨by rfl, ?_⟩) hHeld ?_ ?_
                                rotate_left
                                · rintro w' ⟨s0, s1, s2, s3, s4, s5, s6, s7⟩
                                  go_simp
                                  with_reducible rfl
                                rotate_left
                                · simp only [Act.put, List.setIfInBounds_toArray, List.set_cons_zero, List.set_cons_succ, i64_w, i32_w]
                                  rfl
                                refine join_ (σ := Nat) 2 #[true, true, true, true, true, true, true, true, true, true, true, true, true, false, false] (fun s_ => [(58, .tuple #[.agg #[.int .i64 t522, .int .i64 t523, .int .i64 t524, .int .i64 t525], .bool true]), (11, .pointer (some ⟨s_, 0, none⟩)), (49, .tuple #[.agg #[.int .i64 t522, .int .i64 t523, .int .i64 t524, .int .i64 t525], .bool true]), (59, .agg #[.int .i64 t522, .int .i64 t523, .int .i64 t524, .int .i64 t525]), (60, .bool true)]) (fun s_ w' => (w'.cell? (ad520.add ((x9_2).toNat * 4)) = some (.int .i64 ((rd_T25 l0 x9_2).f0.f0)) ∧ w'.cell? ⟨(ad520.add ((x9_2).toNat * 4)).block, (ad520.add ((x9_2).toNat * 4)).off + 1, none⟩ = some (.int .i64 ((rd_T25 l0 x9_2).f0.f1)) ∧ w'.cell? ⟨(ad520.add ((x9_2).toNat * 4)).block, (ad520.add ((x9_2).toNat * 4)).off + 2, none⟩ = some (.int .i64 ((rd_T25 l0 x9_2).f1.f0)) ∧ w'.cell? ⟨(ad520.add ((x9_2).toNat * 4)).block, (ad520.add ((x9_2).toNat * 4)).off + 3, none⟩ = some (.int .i64 ((rd_T25 l0 x9_2).f1.f1)) ∧ w'.cell? (ad520.add ((x10_3).toNat * 4)) = some (.int .i64 ((rd_T25 l0 x10_3).f0.f0)) ∧ w'.cell? ⟨(ad520.add ((x10_3).toNat * 4)).block, (ad520.add ((x10_3).toNat * 4)).off + 1, none⟩ = some (.int .i64 ((rd_T25 l0 x10_3).f0.f1)) ∧ w'.cell? ⟨(ad520.add ((x10_3).toNat * 4)).block, (ad520.add ((x10_3).toNat * 4)).off + 2, none⟩ = some (.int .i64 ((rd_T25 l0 x10_3).f1.f0)) ∧ w'.cell? ⟨(ad520.add ((x10_3).toNat * 4)).block, (ad520.add ((x10_3).toNat * 4)).off + 3, none⟩ = some (.int .i64 ((rd_T25 l0 x10_3).f1.f1))) ∧ (Kd.R k25 25 w' w.heap.size (fun k_ => k_ ≠ s_) u5 x5_1) ∧ (w'.heap[s_]? = some (.cells #[.int .i64 0, .int .i64 0, .int .i64 0, .int .i64 0] 25 (0, 0))) ∧ (w.heap.size ≤ s_) ∧ (w.heap.size ≤ s_) ∧ (Below w.heap.size w w')) ?_ ?_
                                rotate_left
                                · intro hCont
                                  refine two_ (i := 8) (j := 12) (Ni := some 58) (Nj := some 11) #[true, true, true, true, true, true, true, true, true, false, false, false, false, false, false] #[true, true, true, true, true, true, true, true, false, false, false, false, true, false, false] rfl rfl rfl rfl (two_of HT_.out (by kernel_rfl)) (by decide) (by decide) (fun K hK => ?_) (fun K hK => ?_)
                                  · skip
                                    refine goes_ Try.func71 (by kernel_rfl) rfl #[.agg #[.int .i64 ((rd_T25 l0 x9_2).f0.f0), .int .i64 ((rd_T25 l0 x9_2).f0.f1), .int .i64 ((rd_T25 l0 x9_2).f1.f0), .int .i64 ((rd_T25 l0 x9_2).f1.f1)], .agg #[.int .i64 ((rd_T25 l0 x10_3).f0.f0), .int .i64 ((rd_T25 l0 x10_3).f0.f1), .int .i64 ((rd_T25 l0 x10_3).f1.f0), .int .i64 ((rd_T25 l0 x10_3).f1.f1)]] (by rfl) rfl rfl (by (try simp only [List.map_toArray, List.map_cons, List.map_nil]); first | done | rfl | (simp only [List.length_drop, List.length_take]; rfl)) ?_
                                    with_reducible refine (spec_l04Times.calls k3 ((rd_T25 l0 x9_2).f0.f0) ((rd_T25 l0 x9_2).f0.f1) ((rd_T25 l0 x9_2).f1.f0) ((rd_T25 l0 x9_2).f1.f1) ((rd_T25 l0 x10_3).f0.f0) ((rd_T25 l0 x10_3).f0.f1) ((rd_T25 l0 x10_3).f1.f0) ((rd_T25 l0 x10_3).f1.f1) t522 t523 t524 t525 true _ A20.out).mono ?_
                                    rintro e w36 ⟨rfl, hb⟩
                                    refine ⟨_, rfl, ?_⟩
                                    have n0_ := Aside0.mk (Kd.R_below (by (with_reducible repeat (first | apply Kd.R_alloc | apply Kd.R_drewN | apply Kd.R_drew)); exact HO_5.out) hb)
                                    have n1_ := Aside0.mk (below_step blA hb)
                                    clear HO_5
                                    clear HB
                                    have HO_5 := n0_
                                    have HB := n1_
                                    clear n0_ n1_
                                    (try clear hb)
                                    (try clear hb2)
                                    (try clear hk)
                                    (try clear hi)
                                    refine hK.out _ _ ⟨((HB.out.cell (World.block_lt_of_cell? w _ hw520_0)).trans hw520_0), ((HB.out.cell (World.block_lt_of_cell? w _ hw520_1)).trans hw520_1), ((HB.out.cell (World.block_lt_of_cell? w _ hw520_2)).trans hw520_2), ((HB.out.cell (World.block_lt_of_cell? w _ hw520_3)).trans hw520_3), ((HB.out.cell (World.block_lt_of_cell? w _ hw521_0)).trans hw521_0), ((HB.out.cell (World.block_lt_of_cell? w _ hw521_1)).trans hw521_1), ((HB.out.cell (World.block_lt_of_cell? w _ hw521_2)).trans hw521_2), ((HB.out.cell (World.block_lt_of_cell? w _ hw521_3)).trans hw521_3)⟩ (fun hHeld => ?_)
                                    clear hK K
                                    refine norm_ (a' := ?_) ?_ ?_
                                    rotate_left
                                    · show Act.put _ (some 58) _ = _
                                      simp only [Act.put, List.setIfInBounds_toArray, List.set_cons_zero, List.set_cons_succ, i64_w, i32_w]
                                      rfl
                                    refine pure_ (i := 9) (N := some 49) (v := ?_) (a' := ?_) #[true, true, true, true, true, true, true, true, true, true, false, false, false, false, false] rfl rfl (any_of HT_.out (by kernel_rfl)) (fun _ _ _ h => h) (Or.inl ⟨by rfl, ?_⟩) ?_ ?_
                                    rotate_left
                                    · intro w'
                                      go_simp
                                      with_reducible rfl
                                    rotate_left
                                    · simp only [Act.put, List.setIfInBounds_toArray, List.set_cons_zero, List.set_cons_succ, i64_w, i32_w]
                                      rfl
                                    refine pure_ (i := 10) (N := some 59) (v := ?_) (a' := ?_) #[true, true, true, true, true, true, true, true, true, true, true, false, false, false, false] rfl rfl (any_of HT_.out (by kernel_rfl)) (fun _ _ _ h => h) (Or.inl ⟨by rfl, ?_⟩) ?_ ?_
                                    rotate_left
                                    · intro w'
                                      go_simp
                                      with_reducible rfl
                                    rotate_left
                                    · simp only [Act.put, List.setIfInBounds_toArray, List.set_cons_zero, List.set_cons_succ, i64_w, i32_w]
                                      rfl
                                    refine pure_ (i := 11) (N := some 60) (v := ?_) (a' := ?_) #[true, true, true, true, true, true, true, true, true, true, true, true, false, false, false] rfl rfl (any_of HT_.out (by kernel_rfl)) (fun _ _ _ h => h) (Or.inl ⟨by rfl, ?_⟩) ?_ ?_
                                    rotate_left
                                    · intro w'
                                      go_simp
                                      with_reducible rfl
                                    rotate_left
                                    · simp only [Act.put, List.setIfInBounds_toArray, List.set_cons_zero, List.set_cons_succ, i64_w, i32_w]
                                      rfl
                                    refine one_ (i := 12) (N := some 11) #[true, true, true, true, true, true, true, true, true, true, true, true, true, false, false] rfl rfl (one_of HT_.out (by kernel_rfl)) (by decide) (fun K hK => ?_)
                                    refine box_step ?hg (N := 11) ?hd (cs := #[.int .i64 0, .int .i64 0, .int .i64 0, .int .i64 0]) (t := 25) ?hr ?_; (case hd => rfl); (case hg => rfl); (case hr => first | (go_simp; done) | (go_simp; rfl))
                                    intro gb527 hg w37 hbox hb
                                    have n0_ := Aside0.mk (Kd.R_below (Kd.R_elderB (by (with_reducible repeat (first | apply Kd.R_alloc | apply Kd.R_drewN | apply Kd.R_drew)); exact HO_5.out) gb527 (Nat.le_of_eq hg.symm)) hb)
                                    have n1_ := Aside0.mk (below_step blA hb)
                                    have n2_ := Aside0.mk (hbox)
                                    have n3_ := Aside0.mk (szA hg blA)
                                    have n4_ := Aside0.mk (szA hg blA)
                                    clear HO_5
                                    clear HB
                                    have HO_5 := n0_
                                    have HB := n1_
                                    have BK527 := n2_
                                    have GW527 := n3_
                                    have GE527 := n4_
                                    clear n0_ n1_ n2_ n3_ n4_
                                    clear hb hbox hg
                                    refine hK.out _ _ ⟨((HB.out.cell (World.block_lt_of_cell? w _ hw520_0)).trans hw520_0), ((HB.out.cell (World.block_lt_of_cell? w _ hw520_1)).trans hw520_1), ((HB.out.cell (World.block_lt_of_cell? w _ hw520_2)).trans hw520_2), ((HB.out.cell (World.block_lt_of_cell? w _ hw520_3)).trans hw520_3), ((HB.out.cell (World.block_lt_of_cell? w _ hw521_0)).trans hw521_0), ((HB.out.cell (World.block_lt_of_cell? w _ hw521_1)).trans hw521_1), ((HB.out.cell (World.block_lt_of_cell? w _ hw521_2)).trans hw521_2), ((HB.out.cell (World.block_lt_of_cell? w _ hw521_3)).trans hw521_3)⟩ (fun hHeld => ?_)
                                    clear hK K
                                    refine norm_ (a' := ?_) ?_ ?_
                                    rotate_left
                                    · show Act.put _ (some 11) _ = _
                                      simp only [Act.put, List.setIfInBounds_toArray, List.set_cons_zero, List.set_cons_succ, i64_w, i32_w]
                                      rfl
                                    exact norm_ (by simp only [putAll, Act.put, List.setIfInBounds_toArray, List.set_cons_zero, List.set_cons_succ]) (hCont (gb527) _ ⟨hHeld, (by (with_reducible repeat (first | apply Kd.R_alloc | apply Kd.R_drewN | apply Kd.R_drew)); exact Kd.R_mono HO_5.out (fun _ hk => hk.2)), (bkA BK527), GW527.out, GE527.out, blA⟩)
                                  · skip
                                    refine box_step ?hg (N := 11) ?hd (cs := #[.int .i64 0, .int .i64 0, .int .i64 0, .int .i64 0]) (t := 25) ?hr ?_; (case hd => rfl); (case hg => rfl); (case hr => first | (go_simp; done) | (go_simp; rfl))
                                    intro gb527 hg w36 hbox hb
                                    have n0_ := Aside0.mk (Kd.R_below (Kd.R_elderB (by (with_reducible repeat (first | apply Kd.R_alloc | apply Kd.R_drewN | apply Kd.R_drew)); exact HO_5.out) gb527 (Nat.le_of_eq hg.symm)) hb)
                                    have n1_ := Aside0.mk (below_step blA hb)
                                    have n2_ := Aside0.mk (hbox)
                                    have n3_ := Aside0.mk (szA hg blA)
                                    have n4_ := Aside0.mk (szA hg blA)
                                    clear HO_5
                                    clear HB
                                    have HO_5 := n0_
                                    have HB := n1_
                                    have BK527 := n2_
                                    have GW527 := n3_
                                    have GE527 := n4_
                                    clear n0_ n1_ n2_ n3_ n4_
                                    clear hb hbox hg
                                    refine hK.out _ _ ⟨((HB.out.cell (World.block_lt_of_cell? w _ hw520_0)).trans hw520_0), ((HB.out.cell (World.block_lt_of_cell? w _ hw520_1)).trans hw520_1), ((HB.out.cell (World.block_lt_of_cell? w _ hw520_2)).trans hw520_2), ((HB.out.cell (World.block_lt_of_cell? w _ hw520_3)).trans hw520_3), ((HB.out.cell (World.block_lt_of_cell? w _ hw521_0)).trans hw521_0), ((HB.out.cell (World.block_lt_of_cell? w _ hw521_1)).trans hw521_1), ((HB.out.cell (World.block_lt_of_cell? w _ hw521_2)).trans hw521_2), ((HB.out.cell (World.block_lt_of_cell? w _ hw521_3)).trans hw521_3)⟩ (fun hHeld => ?_)
                                    clear hK K
                                    refine norm_ (a' := ?_) ?_ ?_
                                    rotate_left
                                    · show Act.put _ (some 11) _ = _
                                      simp only [Act.put, List.setIfInBounds_toArray, List.set_cons_zero, List.set_cons_succ, i64_w, i32_w]
                                      rfl
                                    refine one_ (i := 8) (N := some 58) #[true, true, true, true, true, true, true, true, true, false, false, false, true, false, false] rfl rfl (one_of HT_.out (by kernel_rfl)) (by decide) (fun K hK => ?_)
                                    refine goes_ Try.func71 (by kernel_rfl) rfl #[.agg #[.int .i64 ((rd_T25 l0 x9_2).f0.f0), .int .i64 ((rd_T25 l0 x9_2).f0.f1), .int .i64 ((rd_T25 l0 x9_2).f1.f0), .int .i64 ((rd_T25 l0 x9_2).f1.f1)], .agg #[.int .i64 ((rd_T25 l0 x10_3).f0.f0), .int .i64 ((rd_T25 l0 x10_3).f0.f1), .int .i64 ((rd_T25 l0 x10_3).f1.f0), .int .i64 ((rd_T25 l0 x10_3).f1.f1)]] (by rfl) rfl rfl (by (try simp only [List.map_toArray, List.map_cons, List.map_nil]); first | done | rfl | (simp only [List.length_drop, List.length_take]; rfl)) ?_
                                    with_reducible refine (spec_l04Times.calls k3 ((rd_T25 l0 x9_2).f0.f0) ((rd_T25 l0 x9_2).f0.f1) ((rd_T25 l0 x9_2).f1.f0) ((rd_T25 l0 x9_2).f1.f1) ((rd_T25 l0 x10_3).f0.f0) ((rd_T25 l0 x10_3).f0.f1) ((rd_T25 l0 x10_3).f1.f0) ((rd_T25 l0 x10_3).f1.f1) t522 t523 t524 t525 true _ A20.out).mono ?_
                                    rintro e w37 ⟨rfl, hb⟩
                                    refine ⟨_, rfl, ?_⟩
                                    have n0_ := Aside0.mk (Kd.R_below (by (with_reducible repeat (first | apply Kd.R_alloc | apply Kd.R_drewN | apply Kd.R_drew)); exact HO_5.out) hb)
                                    have n1_ := Aside0.mk (blk_below (bkA BK527) hb)
                                    have n2_ := Aside0.mk (below_step blA hb)
                                    clear HO_5
                                    clear BK527
                                    clear HB
                                    have HO_5 := n0_
                                    have BK527 := n1_
                                    have HB := n2_
                                    clear n0_ n1_ n2_
                                    (try clear hb)
                                    (try clear hb2)
                                    (try clear hk)
                                    (try clear hi)
                                    refine hK.out _ _ ⟨((HB.out.cell (World.block_lt_of_cell? w _ hw520_0)).trans hw520_0), ((HB.out.cell (World.block_lt_of_cell? w _ hw520_1)).trans hw520_1), ((HB.out.cell (World.block_lt_of_cell? w _ hw520_2)).trans hw520_2), ((HB.out.cell (World.block_lt_of_cell? w _ hw520_3)).trans hw520_3), ((HB.out.cell (World.block_lt_of_cell? w _ hw521_0)).trans hw521_0), ((HB.out.cell (World.block_lt_of_cell? w _ hw521_1)).trans hw521_1), ((HB.out.cell (World.block_lt_of_cell? w _ hw521_2)).trans hw521_2), ((HB.out.cell (World.block_lt_of_cell? w _ hw521_3)).trans hw521_3)⟩ (fun hHeld => ?_)
                                    clear hK K
                                    refine norm_ (a' := ?_) ?_ ?_
                                    rotate_left
                                    · show Act.put _ (some 58) _ = _
                                      simp only [Act.put, List.setIfInBounds_toArray, List.set_cons_zero, List.set_cons_succ, i64_w, i32_w]
                                      rfl
                                    refine pure_ (i := 9) (N := some 49) (v := ?_) (a' := ?_) #[true, true, true, true, true, true, true, true, true, true, false, false, true, false, false] rfl rfl (any_of HT_.out (by kernel_rfl)) (fun _ _ _ h => h) (Or.inl ⟨by rfl, ?_⟩) ?_ ?_
                                    rotate_left
                                    · intro w'
                                      go_simp
                                      with_reducible rfl
                                    rotate_left
                                    · simp only [Act.put, List.setIfInBounds_toArray, List.set_cons_zero, List.set_cons_succ, i64_w, i32_w]
                                      rfl
                                    refine pure_ (i := 10) (N := some 59) (v := ?_) (a' := ?_) #[true, true, true, true, true, true, true, true, true, true, true, false, true, false, false] rfl rfl (any_of HT_.out (by kernel_rfl)) (fun _ _ _ h => h) (Or.inl ⟨by rfl, ?_⟩) ?_ ?_
                                    rotate_left
                                    · intro w'
                                      go_simp
                                      with_reducible rfl
                                    rotate_left
                                    · simp only [Act.put, List.setIfInBounds_toArray, List.set_cons_zero, List.set_cons_succ, i64_w, i32_w]
                                      rfl
                                    refine pure_ (i := 11) (N := some 60) (v := ?_) (a' := ?_) #[true, true, true, true, true, true, true, true, true, true, true, true, true, false, false] rfl rfl (any_of HT_.out (by kernel_rfl)) (fun _ _ _ h => h) (Or.inl ⟨by rfl, ?_⟩) ?_ ?_
                                    rotate_left
                                    · intro w'
                                      go_simp
                                      with_reducible rfl
                                    rotate_left
                                    · simp only [Act.put, List.setIfInBounds_toArray, List.set_cons_zero, List.set_cons_succ, i64_w, i32_w]
                                      rfl
                                    exact norm_ (by simp only [putAll, Act.put, List.setIfInBounds_toArray, List.set_cons_zero, List.set_cons_succ]) (hCont (gb527) _ ⟨hHeld, (by (with_reducible repeat (first | apply Kd.R_alloc | apply Kd.R_drewN | apply Kd.R_drew)); exact Kd.R_mono HO_5.out (fun _ hk => hk.2)), (bkA BK527), GW527.out, GE527.out, blA⟩)
                                rintro gb527 w38 ⟨hS_, h0_, h1_, h2_, h3_, h4_⟩
                                have n0_ : Aside0 (Kd.R k25 25 w38 w.heap.size (fun k_ => k_ ≠ gb527) u5 x5_1) := ⟨h0_⟩
                                have n1_ : Aside0 (w38.heap[gb527]? = some (.cells #[.int .i64 0, .int .i64 0, .int .i64 0, .int .i64 0] 25 (0, 0))) := ⟨h1_⟩
                                have n2_ : Aside0 (w.heap.size ≤ gb527) := ⟨h2_⟩
                                have n3_ : Aside0 (w.heap.size ≤ gb527) := ⟨h3_⟩
                                have n4_ : Aside0 (Below w.heap.size w w38) := ⟨h4_⟩
                                clear HO_5
                                clear HB
                                clear h0_ h1_ h2_ h3_ h4_
                                have HO_5 := n0_
                                have BK527 := n1_
                                have GW527 := n2_
                                have GE527 := n3_
                                have HB := n4_
                                clear n0_ n1_ n2_ n3_ n4_
                                have hHeld : w38.cell? (ad520.add ((x9_2).toNat * 4)) = some (.int .i64 ((rd_T25 l0 x9_2).f0.f0)) ∧ w38.cell? ⟨(ad520.add ((x9_2).toNat * 4)).block, (ad520.add ((x9_2).toNat * 4)).off + 1, none⟩ = some (.int .i64 ((rd_T25 l0 x9_2).f0.f1)) ∧ w38.cell? ⟨(ad520.add ((x9_2).toNat * 4)).block, (ad520.add ((x9_2).toNat * 4)).off + 2, none⟩ = some (.int .i64 ((rd_T25 l0 x9_2).f1.f0)) ∧ w38.cell? ⟨(ad520.add ((x9_2).toNat * 4)).block, (ad520.add ((x9_2).toNat * 4)).off + 3, none⟩ = some (.int .i64 ((rd_T25 l0 x9_2).f1.f1)) ∧ w38.cell? (ad520.add ((x10_3).toNat * 4)) = some (.int .i64 ((rd_T25 l0 x10_3).f0.f0)) ∧ w38.cell? ⟨(ad520.add ((x10_3).toNat * 4)).block, (ad520.add ((x10_3).toNat * 4)).off + 1, none⟩ = some (.int .i64 ((rd_T25 l0 x10_3).f0.f1)) ∧ w38.cell? ⟨(ad520.add ((x10_3).toNat * 4)).block, (ad520.add ((x10_3).toNat * 4)).off + 2, none⟩ = some (.int .i64 ((rd_T25 l0 x10_3).f1.f0)) ∧ w38.cell? ⟨(ad520.add ((x10_3).toNat * 4)).block, (ad520.add ((x10_3).toNat * 4)).off + 3, none⟩ = some (.int .i64 ((rd_T25 l0 x10_3).f1.f1)) := hS_
                                refine norm_ (a' := ?_) ?_ ?_
                                rotate_left
                                · simp only [putAll, Act.put, List.setIfInBounds_toArray, List.set_cons_zero, List.set_cons_succ]
                                  rfl
                                refine one_ (i := 13) (N := none) #[true, true, true, true, true, true, true, true, true, true, true, true, true, true, false] rfl rfl (one_of HT_.out (by kernel_rfl)) (by decide) (fun K hK => ?_)
                                have hs39 : w38.cell? ⟨gb527, 0, none⟩ = some (.int .i64 0) := (blk_cell BK527.out 0).trans rfl
                                have hfs39 := blk_frozen BK527.out 0
                                have hs40 : w38.cell? ⟨gb527, 1, none⟩ = some (.int .i64 0) := (blk_cell BK527.out 1).trans rfl
                                have hfs40 := blk_frozen BK527.out 1
                                have hs41 : w38.cell? ⟨gb527, 2, none⟩ = some (.int .i64 0) := (blk_cell BK527.out 2).trans rfl
                                have hfs41 := blk_frozen BK527.out 2
                                have hs42 : w38.cell? ⟨gb527, 3, none⟩ = some (.int .i64 0) := (blk_cell BK527.out 3).trans rfl
                                have hfs42 := blk_frozen BK527.out 3
                                refine skip_ (w1 := ?_) (by rfl) rfl ?_ ?_
                                rotate_left
                                · go_simp
                                  rfl
                                refine hK.out _ _ ⟨((cell_far (p := ⟨gb527, _, none⟩) (by first | exact Nat.ne_of_lt (Nat.lt_of_lt_of_le (by have := World.block_lt_of_cell? _ _ hw520_0; first | rwa [add_block] at this | exact this) GW527.out) | (rw [add_block]; exact Nat.ne_of_lt (Nat.lt_of_lt_of_le (by have := World.block_lt_of_cell? _ _ hw520_0; first | rwa [add_block] at this | exact this) GW527.out)) | (show (Addr.add _ _).block ≠ _; rw [add_block]; exact Nat.ne_of_lt (Nat.lt_of_lt_of_le (by have := World.block_lt_of_cell? _ _ hw520_0; first | rwa [add_block] at this | exact this) GW527.out)) | (dsimp only; exact Nat.ne_of_lt (Nat.lt_of_lt_of_le (by have := World.block_lt_of_cell? _ _ hw520_0; first | rwa [add_block] at this | exact this) GW527.out))) _).trans (((cell_far (p := ⟨gb527, _, none⟩) (by first | exact Nat.ne_of_lt (Nat.lt_of_lt_of_le (by have := World.block_lt_of_cell? _ _ hw520_0; first | rwa [add_block] at this | exact this) GW527.out) | (rw [add_block]; exact Nat.ne_of_lt (Nat.lt_of_lt_of_le (by have := World.block_lt_of_cell? _ _ hw520_0; first | rwa [add_block] at this | exact this) GW527.out)) | (show (Addr.add _ _).block ≠ _; rw [add_block]; exact Nat.ne_of_lt (Nat.lt_of_lt_of_le (by have := World.block_lt_of_cell? _ _ hw520_0; first | rwa [add_block] at this | exact this) GW527.out)) | (dsimp only; exact Nat.ne_of_lt (Nat.lt_of_lt_of_le (by have := World.block_lt_of_cell? _ _ hw520_0; first | rwa [add_block] at this | exact this) GW527.out))) _).trans (((cell_far (p := ⟨gb527, _, none⟩) (by first | exact Nat.ne_of_lt (Nat.lt_of_lt_of_le (by have := World.block_lt_of_cell? _ _ hw520_0; first | rwa [add_block] at this | exact this) GW527.out) | (rw [add_block]; exact Nat.ne_of_lt (Nat.lt_of_lt_of_le (by have := World.block_lt_of_cell? _ _ hw520_0; first | rwa [add_block] at this | exact this) GW527.out)) | (show (Addr.add _ _).block ≠ _; rw [add_block]; exact Nat.ne_of_lt (Nat.lt_of_lt_of_le (by have := World.block_lt_of_cell? _ _ hw520_0; first | rwa [add_block] at this | exact this) GW527.out)) | (dsimp only; exact Nat.ne_of_lt (Nat.lt_of_lt_of_le (by have := World.block_lt_of_cell? _ _ hw520_0; first | rwa [add_block] at this | exact this) GW527.out))) _).trans (((cell_far (p := ⟨gb527, _, none⟩) (by first | exact Nat.ne_of_lt (Nat.lt_of_lt_of_le (by have := World.block_lt_of_cell? _ _ hw520_0; first | rwa [add_block] at this | exact this) GW527.out) | (rw [add_block]; exact Nat.ne_of_lt (Nat.lt_of_lt_of_le (by have := World.block_lt_of_cell? _ _ hw520_0; first | rwa [add_block] at this | exact this) GW527.out)) | (show (Addr.add _ _).block ≠ _; rw [add_block]; exact Nat.ne_of_lt (Nat.lt_of_lt_of_le (by have := World.block_lt_of_cell? _ _ hw520_0; first | rwa [add_block] at this | exact this) GW527.out)) | (dsimp only; exact Nat.ne_of_lt (Nat.lt_of_lt_of_le (by have := World.block_lt_of_cell? _ _ hw520_0; first | rwa [add_block] at this | exact this) GW527.out))) _).trans (hHeld.1)))))))), ((cell_far (p := ⟨gb527, _, none⟩) (by first | exact Nat.ne_of_lt (Nat.lt_of_lt_of_le (by have := World.block_lt_of_cell? _ _ hw520_1; first | rwa [add_block] at this | exact this) GW527.out) | (rw [add_block]; exact Nat.ne_of_lt (Nat.lt_of_lt_of_le (by have := World.block_lt_of_cell? _ _ hw520_1; first | rwa [add_block] at this | exact this) GW527.out)) | (show (Addr.add _ _).block ≠ _; rw [add_block]; exact Nat.ne_of_lt (Nat.lt_of_lt_of_le (by have := World.block_lt_of_cell? _ _ hw520_1; first | rwa [add_block] at this | exact this) GW527.out)) | (dsimp only; exact Nat.ne_of_lt (Nat.lt_of_lt_of_le (by have := World.block_lt_of_cell? _ _ hw520_1; first | rwa [add_block] at this | exact this) GW527.out))) _).trans (((cell_far (p := ⟨gb527, _, none⟩) (by first | exact Nat.ne_of_lt (Nat.lt_of_lt_of_le (by have := World.block_lt_of_cell? _ _ hw520_1; first | rwa [add_block] at this | exact this) GW527.out) | (rw [add_block]; exact Nat.ne_of_lt (Nat.lt_of_lt_of_le (by have := World.block_lt_of_cell? _ _ hw520_1; first | rwa [add_block] at this | exact this) GW527.out)) | (show (Addr.add _ _).block ≠ _; rw [add_block]; exact Nat.ne_of_lt (Nat.lt_of_lt_of_le (by have := World.block_lt_of_cell? _ _ hw520_1; first | rwa [add_block] at this | exact this) GW527.out)) | (dsimp only; exact Nat.ne_of_lt (Nat.lt_of_lt_of_le (by have := World.block_lt_of_cell? _ _ hw520_1; first | rwa [add_block] at this | exact this) GW527.out))) _).trans (((cell_far (p := ⟨gb527, _, none⟩) (by first | exact Nat.ne_of_lt (Nat.lt_of_lt_of_le (by have := World.block_lt_of_cell? _ _ hw520_1; first | rwa [add_block] at this | exact this) GW527.out) | (rw [add_block]; exact Nat.ne_of_lt (Nat.lt_of_lt_of_le (by have := World.block_lt_of_cell? _ _ hw520_1; first | rwa [add_block] at this | exact this) GW527.out)) | (show (Addr.add _ _).block ≠ _; rw [add_block]; exact Nat.ne_of_lt (Nat.lt_of_lt_of_le (by have := World.block_lt_of_cell? _ _ hw520_1; first | rwa [add_block] at this | exact this) GW527.out)) | (dsimp only; exact Nat.ne_of_lt (Nat.lt_of_lt_of_le (by have := World.block_lt_of_cell? _ _ hw520_1; first | rwa [add_block] at this | exact this) GW527.out))) _).trans (((cell_far (p := ⟨gb527, _, none⟩) (by first | exact Nat.ne_of_lt (Nat.lt_of_lt_of_le (by have := World.block_lt_of_cell? _ _ hw520_1; first | rwa [add_block] at this | exact this) GW527.out) | (rw [add_block]; exact Nat.ne_of_lt (Nat.lt_of_lt_of_le (by have := World.block_lt_of_cell? _ _ hw520_1; first | rwa [add_block] at this | exact this) GW527.out)) | (show (Addr.add _ _).block ≠ _; rw [add_block]; exact Nat.ne_of_lt (Nat.lt_of_lt_of_le (by have := World.block_lt_of_cell? _ _ hw520_1; first | rwa [add_block] at this | exact this) GW527.out)) | (dsimp only; exact Nat.ne_of_lt (Nat.lt_of_lt_of_le (by have := World.block_lt_of_cell? _ _ hw520_1; first | rwa [add_block] at this | exact this) GW527.out))) _).trans (hHeld.2.1)))))))), ((cell_far (p := ⟨gb527, _, none⟩) (by first | exact Nat.ne_of_lt (Nat.lt_of_lt_of_le (by have := World.block_lt_of_cell? _ _ hw520_2; first | rwa [add_block] at this | exact this) GW527.out) | (rw [add_block]; exact Nat.ne_of_lt (Nat.lt_of_lt_of_le (by have := World.block_lt_of_cell? _ _ hw520_2; first | rwa [add_block] at this | exact this) GW527.out)) | (show (Addr.add _ _).block ≠ _; rw [add_block]; exact Nat.ne_of_lt (Nat.lt_of_lt_of_le (by have := World.block_lt_of_cell? _ _ hw520_2; first | rwa [add_block] at this | exact this) GW527.out)) | (dsimp only; exact Nat.ne_of_lt (Nat.lt_of_lt_of_le (by have := World.block_lt_of_cell? _ _ hw520_2; first | rwa [add_block] at this | exact this) GW527.out))) _).trans (((cell_far (p := ⟨gb527, _, none⟩) (by first | exact Nat.ne_of_lt (Nat.lt_of_lt_of_le (by have := World.block_lt_of_cell? _ _ hw520_2; first | rwa [add_block] at this | exact this) GW527.out) | (rw [add_block]; exact Nat.ne_of_lt (Nat.lt_of_lt_of_le (by have := World.block_lt_of_cell? _ _ hw520_2; first | rwa [add_block] at this | exact this) GW527.out)) | (show (Addr.add _ _).block ≠ _; rw [add_block]; exact Nat.ne_of_lt (Nat.lt_of_lt_of_le (by have := World.block_lt_of_cell? _ _ hw520_2; first | rwa [add_block] at this | exact this) GW527.out)) | (dsimp only; exact Nat.ne_of_lt (Nat.lt_of_lt_of_le (by have := World.block_lt_of_cell? _ _ hw520_2; first | rwa [add_block] at this | exact this) GW527.out))) _).trans (((cell_far (p := ⟨gb527, _, none⟩) (by first | exact Nat.ne_of_lt (Nat.lt_of_lt_of_le (by have := World.block_lt_of_cell? _ _ hw520_2; first | rwa [add_block] at this | exact this) GW527.out) | (rw [add_block]; exact Nat.ne_of_lt (Nat.lt_of_lt_of_le (by have := World.block_lt_of_cell? _ _ hw520_2; first | rwa [add_block] at this | exact this) GW527.out)) | (show (Addr.add _ _).block ≠ _; rw [add_block]; exact Nat.ne_of_lt (Nat.lt_of_lt_of_le (by have := World.block_lt_of_cell? _ _ hw520_2; first | rwa [add_block] at this | exact this) GW527.out)) | (dsimp only; exact Nat.ne_of_lt (Nat.lt_of_lt_of_le (by have := World.block_lt_of_cell? _ _ hw520_2; first | rwa [add_block] at this | exact this) GW527.out))) _).trans (((cell_far (p := ⟨gb527, _, none⟩) (by first | exact Nat.ne_of_lt (Nat.lt_of_lt_of_le (by have := World.block_lt_of_cell? _ _ hw520_2; first | rwa [add_block] at this | exact this) GW527.out) | (rw [add_block]; exact Nat.ne_of_lt (Nat.lt_of_lt_of_le (by have := World.block_lt_of_cell? _ _ hw520_2; first | rwa [add_block] at this | exact this) GW527.out)) | (show (Addr.add _ _).block ≠ _; rw [add_block]; exact Nat.ne_of_lt (Nat.lt_of_lt_of_le (by have := World.block_lt_of_cell? _ _ hw520_2; first | rwa [add_block] at this | exact this) GW527.out)) | (dsimp only; exact Nat.ne_of_lt (Nat.lt_of_lt_of_le (by have := World.block_lt_of_cell? _ _ hw520_2; first | rwa [add_block] at this | exact this) GW527.out))) _).trans (hHeld.2.2.1)))))))), ((cell_far (p := ⟨gb527, _, none⟩) (by first | exact Nat.ne_of_lt (Nat.lt_of_lt_of_le (by have := World.block_lt_of_cell? _ _ hw520_3; first | rwa [add_block] at this | exact this) GW527.out) | (rw [add_block]; exact Nat.ne_of_lt (Nat.lt_of_lt_of_le (by have := World.block_lt_of_cell? _ _ hw520_3; first | rwa [add_block] at this | exact this) GW527.out)) | (show (Addr.add _ _).block ≠ _; rw [add_block]; exact Nat.ne_of_lt (Nat.lt_of_lt_of_le (by have := World.block_lt_of_cell? _ _ hw520_3; first | rwa [add_block] at this | exact this) GW527.out)) | (dsimp only; exact Nat.ne_of_lt (Nat.lt_of_lt_of_le (by have := World.block_lt_of_cell? _ _ hw520_3; first | rwa [add_block] at this | exact this) GW527.out))) _).trans (((cell_far (p := ⟨gb527, _, none⟩) (by first | exact Nat.ne_of_lt (Nat.lt_of_lt_of_le (by have := World.block_lt_of_cell? _ _ hw520_3; first | rwa [add_block] at this | exact this) GW527.out) | (rw [add_block]; exact Nat.ne_of_lt (Nat.lt_of_lt_of_le (by have := World.block_lt_of_cell? _ _ hw520_3; first | rwa [add_block] at this | exact this) GW527.out)) | (show (Addr.add _ _).block ≠ _; rw [add_block]; exact Nat.ne_of_lt (Nat.lt_of_lt_of_le (by have := World.block_lt_of_cell? _ _ hw520_3; first | rwa [add_block] at this | exact this) GW527.out)) | (dsimp only; exact Nat.ne_of_lt (Nat.lt_of_lt_of_le (by have := World.block_lt_of_cell? _ _ hw520_3; first | rwa [add_block] at this | exact this) GW527.out))) _).trans (((cell_far (p := ⟨gb527, _, none⟩) (by first | exact Nat.ne_of_lt (Nat.lt_of_lt_of_le (by have := World.block_lt_of_cell? _ _ hw520_3; first | rwa [add_block] at this | exact this) GW527.out) | (rw [add_block]; exact Nat.ne_of_lt (Nat.lt_of_lt_of_le (by have := World.block_lt_of_cell? _ _ hw520_3; first | rwa [add_block] at this | exact this) GW527.out)) | (show (Addr.add _ _).block ≠ _; rw [add_block]; exact Nat.ne_of_lt (Nat.lt_of_lt_of_le (by have := World.block_lt_of_cell? _ _ hw520_3; first | rwa [add_block] at this | exact this) GW527.out)) | (dsimp only; exact Nat.ne_of_lt (Nat.lt_of_lt_of_le (by have := World.block_lt_of_cell? _ _ hw520_3; first | rwa [add_block] at this | exact this) GW527.out))) _).trans (((cell_far (p := ⟨gb527, _, none⟩) (by first | exact Nat.ne_of_lt (Nat.lt_of_lt_of_le (by have := World.block_lt_of_cell? _ _ hw520_3; first | rwa [add_block] at this | exact this) GW527.out) | (rw [add_block]; exact Nat.ne_of_lt (Nat.lt_of_lt_of_le (by have := World.block_lt_of_cell? _ _ hw520_3; first | rwa [add_block] at this | exact this) GW527.out)) | (show (Addr.add _ _).block ≠ _; rw [add_block]; exact Nat.ne_of_lt (Nat.lt_of_lt_of_le (by have := World.block_lt_of_cell? _ _ hw520_3; first | rwa [add_block] at this | exact this) GW527.out)) | (dsimp only; exact Nat.ne_of_lt (Nat.lt_of_lt_of_le (by have := World.block_lt_of_cell? _ _ hw520_3; first | rwa [add_block] at this | exact this) GW527.out))) _).trans (hHeld.2.2.2.1)))))))), ((cell_far (p := ⟨gb527, _, none⟩) (by first | exact Nat.ne_of_lt (Nat.lt_of_lt_of_le (by have := World.block_lt_of_cell? _ _ hw521_0; first | rwa [add_block] at this | exact this) GW527.out) | (rw [add_block]; exact Nat.ne_of_lt (Nat.lt_of_lt_of_le (by have := World.block_lt_of_cell? _ _ hw521_0; first | rwa [add_block] at this | exact this) GW527.out)) | (show (Addr.add _ _).block ≠ _; rw [add_block]; exact Nat.ne_of_lt (Nat.lt_of_lt_of_le (by have := World.block_lt_of_cell? _ _ hw521_0; first | rwa [add_block] at this | exact this) GW527.out)) | (dsimp only; exact Nat.ne_of_lt (Nat.lt_of_lt_of_le (by have := World.block_lt_of_cell? _ _ hw521_0; first | rwa [add_block] at this | exact this) GW527.out))) _).trans (((cell_far (p := ⟨gb527, _, none⟩) (by first | exact Nat.ne_of_lt (Nat.lt_of_lt_of_le (by have := World.block_lt_of_cell? _ _ hw521_0; first | rwa [add_block] at this | exact this) GW527.out) | (rw [add_block]; exact Nat.ne_of_lt (Nat.lt_of_lt_of_le (by have := World.block_lt_of_cell? _ _ hw521_0; first | rwa [add_block] at this | exact this) GW527.out)) | (show (Addr.add _ _).block ≠ _; rw [add_block]; exact Nat.ne_of_lt (Nat.lt_of_lt_of_le (by have := World.block_lt_of_cell? _ _ hw521_0; first | rwa [add_block] at this | exact this) GW527.out)) | (dsimp only; exact Nat.ne_of_lt (Nat.lt_of_lt_of_le (by have := World.block_lt_of_cell? _ _ hw521_0; first | rwa [add_block] at this | exact this) GW527.out))) _).trans (((cell_far (p := ⟨gb527, _, none⟩) (by first | exact Nat.ne_of_lt (Nat.lt_of_lt_of_le (by have := World.block_lt_of_cell? _ _ hw521_0; first | rwa [add_block] at this | exact this) GW527.out) | (rw [add_block]; exact Nat.ne_of_lt (Nat.lt_of_lt_of_le (by have := World.block_lt_of_cell? _ _ hw521_0; first | rwa [add_block] at this | exact this) GW527.out)) | (show (Addr.add _ _).block ≠ _; rw [add_block]; exact Nat.ne_of_lt (Nat.lt_of_lt_of_le (by have := World.block_lt_of_cell? _ _ hw521_0; first | rwa [add_block] at this | exact this) GW527.out)) | (dsimp only; exact Nat.ne_of_lt (Nat.lt_of_lt_of_le (by have := World.block_lt_of_cell? _ _ hw521_0; first | rwa [add_block] at this | exact this) GW527.out))) _).trans (((cell_far (p := ⟨gb527, _, none⟩) (by first | exact Nat.ne_of_lt (Nat.lt_of_lt_of_le (by have := World.block_lt_of_cell? _ _ hw521_0; first | rwa [add_block] at this | exact this) GW527.out) | (rw [add_block]; exact Nat.ne_of_lt (Nat.lt_of_lt_of_le (by have := World.block_lt_of_cell? _ _ hw521_0; first | rwa [add_block] at this | exact this) GW527.out)) | (show (Addr.add _ _).block ≠ _; rw [add_block]; exact Nat.ne_of_lt (Nat.lt_of_lt_of_le (by have := World.block_lt_of_cell? _ _ hw521_0; first | rwa [add_block] at this | exact this) GW527.out)) | (dsimp only; exact Nat.ne_of_lt (Nat.lt_of_lt_of_le (by have := World.block_lt_of_cell? _ _ hw521_0; first | rwa [add_block] at this | exact this) GW527.out))) _).trans (hHeld.2.2.2.2.1)))))))), ((cell_far (p := ⟨gb527, _, none⟩) (by first | exact Nat.ne_of_lt (Nat.lt_of_lt_of_le (by have := World.block_lt_of_cell? _ _ hw521_1; first | rwa [add_block] at this | exact this) GW527.out) | (rw [add_block]; exact Nat.ne_of_lt (Nat.lt_of_lt_of_le (by have := World.block_lt_of_cell? _ _ hw521_1; first | rwa [add_block] at this | exact this) GW527.out)) | (show (Addr.add _ _).block ≠ _; rw [add_block]; exact Nat.ne_of_lt (Nat.lt_of_lt_of_le (by have := World.block_lt_of_cell? _ _ hw521_1; first | rwa [add_block] at this | exact this) GW527.out)) | (dsimp only; exact Nat.ne_of_lt (Nat.lt_of_lt_of_le (by have := World.block_lt_of_cell? _ _ hw521_1; first | rwa [add_block] at this | exact this) GW527.out))) _).trans (((cell_far (p := ⟨gb527, _, none⟩) (by first | exact Nat.ne_of_lt (Nat.lt_of_lt_of_le (by have := World.block_lt_of_cell? _ _ hw521_1; first | rwa [add_block] at this | exact this) GW527.out) | (rw [add_block]; exact Nat.ne_of_lt (Nat.lt_of_lt_of_le (by have := World.block_lt_of_cell? _ _ hw521_1; first | rwa [add_block] at this | exact this) GW527.out)) | (show (Addr.add _ _).block ≠ _; rw [add_block]; exact Nat.ne_of_lt (Nat.lt_of_lt_of_le (by have := World.block_lt_of_cell? _ _ hw521_1; first | rwa [add_block] at this | exact this) GW527.out)) | (dsimp only; exact Nat.ne_of_lt (Nat.lt_of_lt_of_le (by have := World.block_lt_of_cell? _ _ hw521_1; first | rwa [add_block] at this | exact this) GW527.out))) _).trans (((cell_far (p := ⟨gb527, _, none⟩) (by first | exact Nat.ne_of_lt (Nat.lt_of_lt_of_le (by have := World.block_lt_of_cell? _ _ hw521_1; first | rwa [add_block] at this | exact this) GW527.out) | (rw [add_block]; exact Nat.ne_of_lt (Nat.lt_of_lt_of_le (by have := World.block_lt_of_cell? _ _ hw521_1; first | rwa [add_block] at this | exact this) GW527.out)) | (show (Addr.add _ _).block ≠ _; rw [add_block]; exact Nat.ne_of_lt (Nat.lt_of_lt_of_le (by have := World.block_lt_of_cell? _ _ hw521_1; first | rwa [add_block] at this | exact this) GW527.out)) | (dsimp only; exact Nat.ne_of_lt (Nat.lt_of_lt_of_le (by have := World.block_lt_of_cell? _ _ hw521_1; first | rwa [add_block] at this | exact this) GW527.out))) _).trans (((cell_far (p := ⟨gb527, _, none⟩) (by first | exact Nat.ne_of_lt (Nat.lt_of_lt_of_le (by have := World.block_lt_of_cell? _ _ hw521_1; first | rwa [add_block] at this | exact this) GW527.out) | (rw [add_block]; exact Nat.ne_of_lt (Nat.lt_of_lt_of_le (by have := World.block_lt_of_cell? _ _ hw521_1; first | rwa [add_block] at this | exact this) GW527.out)) | (show (Addr.add _ _).block ≠ _; rw [add_block]; exact Nat.ne_of_lt (Nat.lt_of_lt_of_le (by have := World.block_lt_of_cell? _ _ hw521_1; first | rwa [add_block] at this | exact this) GW527.out)) | (dsimp only; exact Nat.ne_of_lt (Nat.lt_of_lt_of_le (by have := World.block_lt_of_cell? _ _ hw521_1; first | rwa [add_block] at this | exact this) GW527.out))) _).trans (hHeld.2.2.2.2.2.1)))))))), ((cell_far (p := ⟨gb527, _, none⟩) (by first | exact Nat.ne_of_lt (Nat.lt_of_lt_of_le (by have := World.block_lt_of_cell? _ _ hw521_2; first | rwa [add_block] at this | exact this) GW527.out) | (rw [add_block]; exact Nat.ne_of_lt (Nat.lt_of_lt_of_le (by have := World.block_lt_of_cell? _ _ hw521_2; first | rwa [add_block] at this | exact this) GW527.out)) | (show (Addr.add _ _).block ≠ _; rw [add_block]; exact Nat.ne_of_lt (Nat.lt_of_lt_of_le (by have := World.block_lt_of_cell? _ _ hw521_2; first | rwa [add_block] at this | exact this) GW527.out)) | (dsimp only; exact Nat.ne_of_lt (Nat.lt_of_lt_of_le (by have := World.block_lt_of_cell? _ _ hw521_2; first | rwa [add_block] at this | exact this) GW527.out))) _).trans (((cell_far (p := ⟨gb527, _, none⟩) (by first | exact Nat.ne_of_lt (Nat.lt_of_lt_of_le (by have := World.block_lt_of_cell? _ _ hw521_2; first | rwa [add_block] at this | exact this) GW527.out) | (rw [add_block]; exact Nat.ne_of_lt (Nat.lt_of_lt_of_le (by have := World.block_lt_of_cell? _ _ hw521_2; first | rwa [add_block] at this | exact this) GW527.out)) | (show (Addr.add _ _).block ≠ _; rw [add_block]; exact Nat.ne_of_lt (Nat.lt_of_lt_of_le (by have := World.block_lt_of_cell? _ _ hw521_2; first | rwa [add_block] at this | exact this) GW527.out)) | (dsimp only; exact Nat.ne_of_lt (Nat.lt_of_lt_of_le (by have := World.block_lt_of_cell? _ _ hw521_2; first | rwa [add_block] at this | exact this) GW527.out))) _).trans (((cell_far (p := ⟨gb527, _, none⟩) (by first | exact Nat.ne_of_lt (Nat.lt_of_lt_of_le (by have := World.block_lt_of_cell? _ _ hw521_2; first | rwa [add_block] at this | exact this) GW527.out) | (rw [add_block]; exact Nat.ne_of_lt (Nat.lt_of_lt_of_le (by have := World.block_lt_of_cell? _ _ hw521_2; first | rwa [add_block] at this | exact this) GW527.out)) | (show (Addr.add _ _).block ≠ _; rw [add_block]; exact Nat.ne_of_lt (Nat.lt_of_lt_of_le (by have := World.block_lt_of_cell? _ _ hw521_2; first | rwa [add_block] at this | exact this) GW527.out)) | (dsimp only; exact Nat.ne_of_lt (Nat.lt_of_lt_of_le (by have := World.block_lt_of_cell? _ _ hw521_2; first | rwa [add_block] at this | exact this) GW527.out))) _).trans (((cell_far (p := ⟨gb527, _, none⟩) (by first | exact Nat.ne_of_lt (Nat.lt_of_lt_of_le (by have := World.block_lt_of_cell? _ _ hw521_2; first | rwa [add_block] at this | exact this) GW527.out) | (rw [add_block]; exact Nat.ne_of_lt (Nat.lt_of_lt_of_le (by have := World.block_lt_of_cell? _ _ hw521_2; first | rwa [add_block] at this | exact this) GW527.out)) | (show (Addr.add _ _).block ≠ _; rw [add_block]; exact Nat.ne_of_lt (Nat.lt_of_lt_of_le (by have := World.block_lt_of_cell? _ _ hw521_2; first | rwa [add_block] at this | exact this) GW527.out)) | (dsimp only; exact Nat.ne_of_lt (Nat.lt_of_lt_of_le (by have := World.block_lt_of_cell? _ _ hw521_2; first | rwa [add_block] at this | exact this) GW527.out))) _).trans (hHeld.2.2.2.2.2.2.1)))))))), ((cell_far (p := ⟨gb527, _, none⟩) (by first | exact Nat.ne_of_lt (Nat.lt_of_lt_of_le (by have := World.block_lt_of_cell? _ _ hw521_3; first | rwa [add_block] at this | exact this) GW527.out) | (rw [add_block]; exact Nat.ne_of_lt (Nat.lt_of_lt_of_le (by have := World.block_lt_of_cell? _ _ hw521_3; first | rwa [add_block] at this | exact this) GW527.out)) | (show (Addr.add _ _).block ≠ _; rw [add_block]; exact Nat.ne_of_lt (Nat.lt_of_lt_of_le (by have := World.block_lt_of_cell? _ _ hw521_3; first | rwa [add_block] at this | exact this) GW527.out)) | (dsimp only; exact Nat.ne_of_lt (Nat.lt_of_lt_of_le (by have := World.block_lt_of_cell? _ _ hw521_3; first | rwa [add_block] at this | exact this) GW527.out))) _).trans (((cell_far (p := ⟨gb527, _, none⟩) (by first | exact Nat.ne_of_lt (Nat.lt_of_lt_of_le (by have := World.block_lt_of_cell? _ _ hw521_3; first | rwa [add_block] at this | exact this) GW527.out) | (rw [add_block]; exact Nat.ne_of_lt (Nat.lt_of_lt_of_le (by have := World.block_lt_of_cell? _ _ hw521_3; first | rwa [add_block] at this | exact this) GW527.out)) | (show (Addr.add _ _).block ≠ _; rw [add_block]; exact Nat.ne_of_lt (Nat.lt_of_lt_of_le (by have := World.block_lt_of_cell? _ _ hw521_3; first | rwa [add_block] at this | exact this) GW527.out)) | (dsimp only; exact Nat.ne_of_lt (Nat.lt_of_lt_of_le (by have := World.block_lt_of_cell? _ _ hw521_3; first | rwa [add_block] at this | exact this) GW527.out))) _).trans (((cell_far (p := ⟨gb527, _, none⟩) (by first | exact Nat.ne_of_lt (Nat.lt_of_lt_of_le (by have := World.block_lt_of_cell? _ _ hw521_3; first | rwa [add_block] at this | exact this) GW527.out) | (rw [add_block]; exact Nat.ne_of_lt (Nat.lt_of_lt_of_le (by have := World.block_lt_of_cell? _ _ hw521_3; first | rwa [add_block] at this | exact this) GW527.out)) | (show (Addr.add _ _).block ≠ _; rw [add_block]; exact Nat.ne_of_lt (Nat.lt_of_lt_of_le (by have := World.block_lt_of_cell? _ _ hw521_3; first | rwa [add_block] at this | exact this) GW527.out)) | (dsimp only; exact Nat.ne_of_lt (Nat.lt_of_lt_of_le (by have := World.block_lt_of_cell? _ _ hw521_3; first | rwa [add_block] at this | exact this) GW527.out))) _).trans (((cell_far (p := ⟨gb527, _, none⟩) (by first | exact Nat.ne_of_lt (Nat.lt_of_lt_of_le (by have := World.block_lt_of_cell? _ _ hw521_3; first | rwa [add_block] at this | exact this) GW527.out) | (rw [add_block]; exact Nat.ne_of_lt (Nat.lt_of_lt_of_le (by have := World.block_lt_of_cell? _ _ hw521_3; first | rwa [add_block] at this | exact this) GW527.out)) | (show (Addr.add _ _).block ≠ _; rw [add_block]; exact Nat.ne_of_lt (Nat.lt_of_lt_of_le (by have := World.block_lt_of_cell? _ _ hw521_3; first | rwa [add_block] at this | exact this) GW527.out)) | (dsimp only; exact Nat.ne_of_lt (Nat.lt_of_lt_of_le (by have := World.block_lt_of_cell? _ _ hw521_3; first | rwa [add_block] at this | exact this) GW527.out))) _).trans (hHeld.2.2.2.2.2.2.2))))))))⟩ (fun hHeld => ?_)
                                clear hK K
                                refine pure_ (i := 14) (N := some 12) (v := ?_) (a' := ?_) #[true, true, true, true, true, true, true, true, true, true, true, true, true, true, true] rfl rfl (any_of HT_.out (by kernel_rfl)) (fun _ _ _ h => h) (Or.inl ⟨by rfl, ?_⟩) ?_ ?_
                                rotate_left
                                · intro w'
                                  go_simp
                                  with_reducible rfl
                                rotate_left
                                · simp only [Act.put, List.setIfInBounds_toArray, List.set_cons_zero, List.set_cons_succ, i64_w, i32_w]
                                  rfl
                                refine done_ (done_of HT_.out (by kernel_rfl)) ?_
                                have hcz43_0 : w38.cell? ⟨gb527, 0, none⟩ = some (.int .i64 0) := (blk_cell BK527.out 0).trans rfl
                                have hcz43_1 : w38.cell? ⟨gb527, 1, none⟩ = some (.int .i64 0) := (blk_cell BK527.out 1).trans rfl
                                have hcz43_2 : w38.cell? ⟨gb527, 2, none⟩ = some (.int .i64 0) := (blk_cell BK527.out 2).trans rfl
                                have hcz43_3 : w38.cell? ⟨gb527, 3, none⟩ = some (.int .i64 0) := (blk_cell BK527.out 3).trans rfl
                                have hfz43_0 := blk_frozen BK527.out 0
                                have hfz43_1 := blk_frozen BK527.out 1
                                have hfz43_2 := blk_frozen BK527.out 2
                                have hfz43_3 := blk_frozen BK527.out 3
                                obtain ⟨Ao44, co44, eo44⟩ := Kd.R_slice HO_5.out
                                subst eo44
                                try go_wp2_with (first | (go_at_call 75; (with_reducible refine (spec_l06Matrix.calls k3 _ _ x5_1 t522 t523 t524 t525 t528 _ ?side1 ?side2 A22.out).mono ?_); (case side1 => refine (Kd.R_reads' (e := 25) (base := w.heap.size) (ok := fun k_ => k_ ≠ gb527) (n := x5_1.length) (c := co44) ?_).2.2; exact (by (with_reducible repeat (first | apply Kd.R_alloc | apply Kd.R_drewN | apply Kd.R_drew)); exact (Kd.R_mono (Kd.R_far (p := ⟨gb527, 3, none⟩) (Kd.R_far (p := ⟨gb527, 2, none⟩) (Kd.R_far (p := ⟨gb527, 1, none⟩) (Kd.R_far (p := ⟨gb527, 0, none⟩) (Kd.R_mono HO_5.out (fun k_ hk => (⟨hk, hk⟩ : _ ∧ k_ ≠ gb527))) (fun _ hk => hk.2) (.int .i64 t522)) (fun _ hk => hk.2) (.int .i64 t523)) (fun _ hk => hk.2) (.int .i64 t524)) (fun _ hk => hk.2) (.int .i64 t525)) (fun _ h_ => h_.1)))); (case side2 => exact (Kd.R_reads' HO_5.out).2.1); rintro e w45 ⟨rfl, hb⟩; have n0_ := Aside0.mk (Kd.R_below (by (with_reducible repeat (first | apply Kd.R_alloc | apply Kd.R_drewN | apply Kd.R_drew)); exact (Kd.R_mono (Kd.R_far (p := ⟨gb527, 3, none⟩) (Kd.R_far (p := ⟨gb527, 2, none⟩) (Kd.R_far (p := ⟨gb527, 1, none⟩) (Kd.R_far (p := ⟨gb527, 0, none⟩) (Kd.R_mono HO_5.out (fun k_ hk => (⟨hk, hk⟩ : _ ∧ k_ ≠ gb527))) (fun _ hk => hk.2) (.int .i64 t522)) (fun _ hk => hk.2) (.int .i64 t523)) (fun _ hk => hk.2) (.int .i64 t524)) (fun _ hk => hk.2) (.int .i64 t525)) (fun _ h_ => h_.1))) hb); have n1_ := Aside0.mk (blk_below (g := gb527) (o := .cells #[.int .i64 t522, .int .i64 t523, .int .i64 t524, .int .i64 t525] 25 (0, 0)) (by (with_reducible repeat (first | refine blk_drewN ?_ _ | refine blk_drew ?_ | refine blk_alloc ?_ _)); refine blk_put (cs := #[.int .i64 t522, .int .i64 t523, .int .i64 t524, .int .i64 0]) ?_ 3 _ rfl; (with_reducible repeat (first | refine blk_drewN ?_ _ | refine blk_drew ?_ | refine blk_alloc ?_ _)); refine blk_put (cs := #[.int .i64 t522, .int .i64 t523, .int .i64 0, .int .i64 0]) ?_ 2 _ rfl; (with_reducible repeat (first | refine blk_drewN ?_ _ | refine blk_drew ?_ | refine blk_alloc ?_ _)); refine blk_put (cs := #[.int .i64 t522, .int .i64 0, .int .i64 0, .int .i64 0]) ?_ 1 _ rfl; (with_reducible repeat (first | refine blk_drewN ?_ _ | refine blk_drew ?_ | refine blk_alloc ?_ _)); refine blk_put (cs := #[.int .i64 0, .int .i64 0, .int .i64 0, .int .i64 0]) ?_ 0 _ rfl; (with_reducible repeat (first | refine blk_drewN ?_ _ | refine blk_drew ?_ | refine blk_alloc ?_ _)); exact BK527.out) hb); have n2_ := Aside0.mk (below_step blA hb); clear HO_5; clear BK527; clear HB; have HO_5 := n0_; have BK527 := n1_; have HB := n2_; clear n0_ n1_ n2_; (try clear hb); (try clear hb2); (try clear hk); (try clear hi)))
                                go_roundg k3
                                case measure => have := HK1.out; have := HK2.out; have := HK3.out; omega
                                case rel => exact ⟨(wrap64 (x10_3 + 1)), (by first | rfl | (simp; done) | (simp [*]; done)), H', ⟨by have := HK1.out; have := HK2.out; have := HK3.out; omega⟩, ⟨by (with_reducible repeat (first | apply Kd.R_alloc | apply Kd.R_drewN | apply Kd.R_drew)); exact Kd.R_mono HO_5.out (fun _ hk => trivial)⟩, ⟨blA⟩⟩
                            · replace c21 := Bool.eq_false_iff.mpr c21
                              subst c21
                              have H1 : (some (false, 0)) = some (r1, r2) := by rw [if_neg (show ¬ (false = true) by decide)] at H; exact H
                              clear H
                              have H := H1
                              clear H1
                              simp only [Option.some.injEq, Prod.mk.injEq] at H
                              obtain ⟨rfl, rfl⟩ := H
                              try go_wp2
                              have n0_ := Aside0.mk (Kd.R_drew HO_5.out)
                              have n1_ := Aside0.mk (below_drew1 HB.out)
                              clear HO_5
                              clear HB
                              have HO_5 := n0_
                              have HB := n1_
                              clear n0_ n1_
                              have p520 : 0 ≤ (x9_2 : Int) := of_decide_eq_true (by first | (with_reducible assumption) | assumption)
                              have q520 : x9_2 < (l0.length : Int) := of_decide_eq_true (by first | (with_reducible assumption) | assumption)
                              obtain ⟨ad520, e520, hx520_0, hx520_1, hx520_2, hx520_3⟩ := at_T25 HR0.out x9_2 p520 q520
                              have hw520_3 := hx520_3
                              have hw520_2 := hx520_2
                              have hw520_1 := hx520_1
                              have hw520_0 := hx520_0
                              cases e520
                              replace hx520_0 := (HB.out.cell (World.block_lt_of_cell? w _ hx520_0)).trans hx520_0
                              replace hx520_1 := (HB.out.cell (World.block_lt_of_cell? w _ hx520_1)).trans hx520_1
                              replace hx520_2 := (HB.out.cell (World.block_lt_of_cell? w _ hx520_2)).trans hx520_2
                              replace hx520_3 := (HB.out.cell (World.block_lt_of_cell? w _ hx520_3)).trans hx520_3
                              replace p520 := eq_true p520
                              replace q520 := eq_true q520
                              have p521 : 0 ≤ (x10_3 : Int) := of_decide_eq_true (by first | (with_reducible assumption) | assumption)
                              have q521 : x10_3 < (l0.length : Int) := of_decide_eq_true (by first | (with_reducible assumption) | assumption)
                              obtain ⟨ad521, e521, hx521_0, hx521_1, hx521_2, hx521_3⟩ := at_T25 HR0.out x10_3 p521 q521
                              have hw521_3 := hx521_3
                              have hw521_2 := hx521_2
                              have hw521_1 := hx521_1
                              have hw521_0 := hx521_0
                              obtain rfl : ad520 = ad521 := (by injection e521)
                              replace hx521_0 := (HB.out.cell (World.block_lt_of_cell? w _ hx521_0)).trans hx521_0
                              replace hx521_1 := (HB.out.cell (World.block_lt_of_cell? w _ hx521_1)).trans hx521_1
                              replace hx521_2 := (HB.out.cell (World.block_lt_of_cell? w _ hx521_2)).trans hx521_2
                              replace hx521_3 := (HB.out.cell (World.block_lt_of_cell? w _ hx521_3)).trans hx521_3
                              replace p521 := eq_true p521
                              replace q521 := eq_true q521
                              refine start_ (n := 15) (S := fun w' => w'.cell? (ad520.add ((x9_2).toNat * 4)) = some (.int .i64 ((rd_T25 l0 x9_2).f0.f0)) ∧ w'.cell? ⟨(ad520.add ((x9_2).toNat * 4)).block, (ad520.add ((x9_2).toNat * 4)).off + 1, none⟩ = some (.int .i64 ((rd_T25 l0 x9_2).f0.f1)) ∧ w'.cell? ⟨(ad520.add ((x9_2).toNat * 4)).block, (ad520.add ((x9_2).toNat * 4)).off + 2, none⟩ = some (.int .i64 ((rd_T25 l0 x9_2).f1.f0)) ∧ w'.cell? ⟨(ad520.add ((x9_2).toNat * 4)).block, (ad520.add ((x9_2).toNat * 4)).off + 3, none⟩ = some (.int .i64 ((rd_T25 l0 x9_2).f1.f1)) ∧ w'.cell? (ad520.add ((x10_3).toNat * 4)) = some (.int .i64 ((rd_T25 l0 x10_3).f0.f0)) ∧ w'.cell? ⟨(ad520.add ((x10_3).toNat * 4)).block, (ad520.add ((x10_3).toNat * 4)).off + 1, none⟩ = some (.int .i64 ((rd_T25 l0 x10_3).f0.f1)) ∧ w'.cell? ⟨(ad520.add ((x10_3).toNat * 4)).block, (ad520.add ((x10_3).toNat * 4)).off + 2, none⟩ = some (.int .i64 ((rd_T25 l0 x10_3).f1.f0)) ∧ w'.cell? ⟨(ad520.add ((x10_3).toNat * 4)).block, (ad520.add ((x10_3).toNat * 4)).off + 3, none⟩ = some (.int .i64 ((rd_T25 l0 x10_3).f1.f1))) (ds := []) #[false, false, false, false, false, false, false, false, false, false, false, false, false, false, false] (by kernel_rfl) rfl rfl ⟨((HB.out.cell (World.block_lt_of_cell? w _ hw520_0)).trans hw520_0), ((HB.out.cell (World.block_lt_of_cell? w _ hw520_1)).trans hw520_1), ((HB.out.cell (World.block_lt_of_cell? w _ hw520_2)).trans hw520_2), ((HB.out.cell (World.block_lt_of_cell? w _ hw520_3)).trans hw520_3), ((HB.out.cell (World.block_lt_of_cell? w _ hw521_0)).trans hw521_0), ((HB.out.cell (World.block_lt_of_cell? w _ hw521_1)).trans hw521_1), ((HB.out.cell (World.block_lt_of_cell? w _ hw521_2)).trans hw521_2), ((HB.out.cell (World.block_lt_of_cell? w _ hw521_3)).trans hw521_3)⟩ (fun hHeld => ?_); refine with_tabW spec_IsClosedList.tab16 spec_IsClosedList.bits16 (fun HT_ HW_ => ?_)
                              generalize wr.drew = w46 at HO_5 HB hx520_0 hx520_1 hx520_2 hx520_3 hx521_0 hx521_1 hx521_2 hx521_3 hHeld ⊢
                              refine pure_ (i := 0) (N := some 50) (v := ?_) (a' := ?_) #[true, false, false, false, false, false, false, false, false, false, false, false, false, false, false] rfl rfl (any_of HT_.out (by kernel_rfl)) (fun _ _ _ h => h) (Or.inl ⟨by rfl, ?_⟩) ?_ ?_
                              rotate_left
                              · intro w'
                                go_simp
                                with_reducible rfl
                              rotate_left
                              · simp only [Act.put, List.setIfInBounds_toArray, List.set_cons_zero, List.set_cons_succ, i64_w, i32_w]
                                rfl
                              refine pure_ (i := 1) (N := some 51) (v := ?_) (a' := ?_) #[true, true, false, false, false, false, false, false, false, false, false, false, false, false, false] rfl rfl (any_of HT_.out (by kernel_rfl)) (fun _ _ _ h => h) (Or.inl ⟨by rfl, ?_⟩) ?_ ?_
                              rotate_left
                              · intro w'
                                go_simp
                                with_reducible rfl
                              rotate_left
                              · simp only [Act.put, List.setIfInBounds_toArray, List.set_cons_zero, List.set_cons_succ, i64_w, i32_w]
                                rfl
                              refine pure_ (i := 2) (N := some 52) (v := ?_) (a' := ?_) #[true, true, true, false, false, false, false, false, false, false, false, false, false, false, false] rfl rfl (any_of HT_.out (by kernel_rfl)) (fun _ _ _ h => h) (Or.inl ⟨by rfl, ?_⟩) ?_ ?_
                              rotate_left
                              · intro w'
                                go_simp
                                with_reducible rfl
                              rotate_left
                              · simp only [Act.put, List.setIfInBounds_toArray, List.set_cons_zero, List.set_cons_succ, i64_w, i32_w]
                                rfl
                              refine pure_ (i := 4) (N := some 54) (v := ?_) (a' := ?_) #[true, true, true, false, true, false, false, false, false, false, false, false, false, false, false] rfl rfl (any_of HT_.out (by kernel_rfl)) (fun _ _ _ h => h) (Or.inl ⟨by rfl, ?_⟩) ?_ ?_
                              rotate_left
                              · intro w'
                                go_simp
                                with_reducible rfl
                              rotate_left
                              · simp only [Act.put, List.setIfInBounds_toArray, List.set_cons_zero, List.set_cons_succ, i64_w, i32_w]
                                rfl
                              refine pure_ (i := 5) (N := some 55) (v := ?_) (a' := ?_) #[true, true, true, false, true, true, false, false, false, false, false, false, false, false, false] rfl rfl (any_of HT_.out (by kernel_rfl)) (fun _ _ _ h => h) (Or.inl ⟨by rfl, ?_⟩) ?_ ?_
                              rotate_left
                              · intro w'
                                go_simp
                                with_reducible rfl
                              rotate_left
                              · simp only [Act.put, List.setIfInBounds_toArray, List.set_cons_zero, List.set_cons_succ, i64_w, i32_w]
                                rfl
                              refine pure_ (i := 6) (N := some 56) (v := ?_) (a' := ?_) #[true, true, true, false, true, true, true, false, false, false, false, false, false, false, false] rfl rfl (any_of HT_.out (by kernel_rfl)) (fun _ _ _ h => h) (Or.inl ⟨by rfl, ?_⟩) ?_ ?_
                              rotate_left
                              · intro w'
                                go_simp
                                with_reducible rfl
                              rotate_left
                              · simp only [Act.put, List.setIfInBounds_toArray, List.set_cons_zero, List.set_cons_succ, i64_w, i32_w]
                                rfl
                              refine take_ (i := 3) (N := some 53) (v := ?_) (a' := ?_) #[true, true, true, true, true, true, true, false, false, false, false, false, false, false, false] rfl rfl (take_ofW HT_.out HW_.out (by kernel_rfl)) (fun _ _ _ h => h) (Or.inl ⟨by rfl, ?_⟩) hHeld ?_ ?_
                              rotate_left
                              · rintro w' ⟨s0, s1, s2, s3, s4, s5, s6, s7⟩
                                go_simp
                                with_reducible rfl
                              rotate_left
                              · simp only [Act.put, List.setIfInBounds_toArray, List.set_cons_zero, List.set_cons_succ, i64_w, i32_w]
                                rfl
                              refine take_ (i := 7) (N := some 57) (v := ?_) (a' := ?_) #[true, true, true, true, true, true, true, true, false, false, false, false, false, false, false] rfl rfl (take_ofW HT_.out HW_.out (by kernel_rfl)) (fun _ _ _ h => h) (Or.inl ⟨by rfl, ?_⟩) hHeld ?_ ?_
                              rotate_left
                              · rintro w' ⟨s0, s1, s2, s3, s4, s5, s6, s7⟩
                                go_simp
                                with_reducible rfl
                              rotate_left
                              · simp only [Act.put, List.setIfInBounds_toArray, List.set_cons_zero, List.set_cons_succ, i64_w, i32_w]
                                rfl
                              refine join_ (σ := Nat) 2 #[true, true, true, true, true, true, true, true, true, true, true, true, true, false, false] (fun s_ => [(58, .tuple #[.agg #[.int .i64 t522, .int .i64 t523, .int .i64 t524, .int .i64 t525], .bool false]), (11, .pointer (some ⟨s_, 0, none⟩)), (49, .tuple #[.agg #[.int .i64 t522, .int .i64 t523, .int .i64 t524, .int .i64 t525], .bool false]), (59, .agg #[.int .i64 t522, .int .i64 t523, .int .i64 t524, .int .i64 t525]), (60, .bool false)]) (fun s_ w' => (w'.cell? (ad520.add ((x9_2).toNat * 4)) = some (.int .i64 ((rd_T25 l0 x9_2).f0.f0)) ∧ w'.cell? ⟨(ad520.add ((x9_2).toNat * 4)).block, (ad520.add ((x9_2).toNat * 4)).off + 1, none⟩ = some (.int .i64 ((rd_T25 l0 x9_2).f0.f1)) ∧ w'.cell? ⟨(ad520.add ((x9_2).toNat * 4)).block, (ad520.add ((x9_2).toNat * 4)).off + 2, none⟩ = some (.int .i64 ((rd_T25 l0 x9_2).f1.f0)) ∧ w'.cell? ⟨(ad520.add ((x9_2).toNat * 4)).block, (ad520.add ((x9_2).toNat * 4)).off + 3, none⟩ = some (.int .i64 ((rd_T25 l0 x9_2).f1.f1)) ∧ w'.cell? (ad520.add ((x10_3).toNat * 4)) = some (.int .i64 ((rd_T25 l0 x10_3).f0.f0)) ∧ w'.cell? ⟨(ad520.add ((x10_3).toNat * 4)).block, (ad520.add ((x10_3).toNat * 4)).off + 1, none⟩ = some (.int .i64 ((rd_T25 l0 x10_3).f0.f1)) ∧ w'.cell? ⟨(ad520.add ((x10_3).toNat * 4)).block, (ad520.add ((x10_3).toNat * 4)).off + 2, none⟩ = some (.int .i64 ((rd_T25 l0 x10_3).f1.f0)) ∧ w'.cell? ⟨(ad520.add ((x10_3).toNat * 4)).block, (ad520.add ((x10_3).toNat * 4)).off + 3, none⟩ = some (.int .i64 ((rd_T25 l0 x10_3).f1.f1))) ∧ (Kd.R k25 25 w' w.heap.size (fun k_ => k_ ≠ s_) u5 x5_1) ∧ (w'.heap[s_]? = some (.cells #[.int .i64 0, .int .i64 0, .int .i64 0, .int .i64 0] 25 (0, 0))) ∧ (w.heap.size ≤ s_) ∧ (w.heap.size ≤ s_) ∧ (Below w.heap.size w w')) ?_ ?_
                              rotate_left
                              · intro hCont
                                refine two_ (i := 8) (j := 12) (Ni := some 58) (Nj := some 11) #[true, true, true, true, true, true, true, true, true, false, false, false, false, false, false] #[true, true, true, true, true, true, true, true, false, false, false, false, true, false, false] rfl rfl rfl rfl (two_of HT_.out (by kernel_rfl)) (by decide) (by decide) (fun K hK => ?_) (fun K hK => ?_)
                                · skip
                                  refine goes_ Try.func71 (by kernel_rfl) rfl #[.agg #[.int .i64 ((rd_T25 l0 x9_2).f0.f0), .int .i64 ((rd_T25 l0 x9_2).f0.f1), .int .i64 ((rd_T25 l0 x9_2).f1.f0), .int .i64 ((rd_T25 l0 x9_2).f1.f1)], .agg #[.int .i64 ((rd_T25 l0 x10_3).f0.f0), .int .i64 ((rd_T25 l0 x10_3).f0.f1), .int .i64 ((rd_T25 l0 x10_3).f1.f0), .int .i64 ((rd_T25 l0 x10_3).f1.f1)]] (by rfl) rfl rfl (by (try simp only [List.map_toArray, List.map_cons, List.map_nil]); first | done | rfl | (simp only [List.length_drop, List.length_take]; rfl)) ?_
                                  with_reducible refine (spec_l04Times.calls k3 ((rd_T25 l0 x9_2).f0.f0) ((rd_T25 l0 x9_2).f0.f1) ((rd_T25 l0 x9_2).f1.f0) ((rd_T25 l0 x9_2).f1.f1) ((rd_T25 l0 x10_3).f0.f0) ((rd_T25 l0 x10_3).f0.f1) ((rd_T25 l0 x10_3).f1.f0) ((rd_T25 l0 x10_3).f1.f1) t522 t523 t524 t525 false _ A20.out).mono ?_
                                  rintro e w47 ⟨rfl, hb⟩
                                  refine ⟨_, rfl, ?_⟩
                                  have n0_ := Aside0.mk (Kd.R_below (by (with_reducible repeat (first | apply Kd.R_alloc | apply Kd.R_drewN | apply Kd.R_drew)); exact HO_5.out) hb)
                                  have n1_ := Aside0.mk (below_step blA hb)
                                  clear HO_5
                                  clear HB
                                  have HO_5 := n0_
                                  have HB := n1_
                                  clear n0_ n1_
                                  (try clear hb)
                                  (try clear hb2)
                                  (try clear hk)
                                  (try clear hi)
                                  refine hK.out _ _ ⟨((HB.out.cell (World.block_lt_of_cell? w _ hw520_0)).trans hw520_0), ((HB.out.cell (World.block_lt_of_cell? w _ hw520_1)).trans hw520_1), ((HB.out.cell (World.block_lt_of_cell? w _ hw520_2)).trans hw520_2), ((HB.out.cell (World.block_lt_of_cell? w _ hw520_3)).trans hw520_3), ((HB.out.cell (World.block_lt_of_cell? w _ hw521_0)).trans hw521_0), ((HB.out.cell (World.block_lt_of_cell? w _ hw521_1)).trans hw521_1), ((HB.out.cell (World.block_lt_of_cell? w _ hw521_2)).trans hw521_2), ((HB.out.cell (World.block_lt_of_cell? w _ hw521_3)).trans hw521_3)⟩ (fun hHeld => ?_)
                                  clear hK K
                                  refine norm_ (a' := ?_) ?_ ?_
                                  rotate_left
                                  · show Act.put _ (some 58) _ = _
                                    simp only [Act.put, List.setIfInBounds_toArray, List.set_cons_zero, List.set_cons_succ, i64_w, i32_w]
                                    rfl
                                  refine pure_ (i := 9) (N := some 49) (v := ?_) (a' := ?_) #[true, true, true, true, true, true, true, true, true, true, false, false, false, false, false] rfl rfl (any_of HT_.out (by kernel_rfl)) (fun _ _ _ h => h) (Or.inl ⟨by rfl, ?_⟩) ?_ ?_
                                  rotate_left
                                  · intro w'
                                    go_simp
                                    with_reducible rfl
                                  rotate_left
                                  · simp only [Act.put, List.setIfInBounds_toArray, List.set_cons_zero, List.set_cons_succ, i64_w, i32_w]
                                    rfl
                                  refine pure_ (i := 10) (N := some 59) (v := ?_) (a' := ?_) #[true, true, true, true, true, true, true, true, true, true, true, false, false, false, false] rfl rfl (any_of HT_.out (by kernel_rfl)) (fun _ _ _ h => h) (Or.inl ⟨by rfl, ?_⟩) ?_ ?_
                                  rotate_left
                                  · intro w'
                                    go_simp
                                    with_reducible rfl
                                  rotate_left
                                  · simp only [Act.put, List.setIfInBounds_toArray, List.set_cons_zero, List.set_cons_succ, i64_w, i32_w]
                                    rfl
                                  refine pure_ (i := 11) (N := some 60) (v := ?_) (a' := ?_) #[true, true, true, true, true, true, true, true, true, true, true, true, false, false, false] rfl rfl (any_of HT_.out (by kernel_rfl)) (fun _ _ _ h => h) (Or.inl ⟨by rfl, ?_⟩) ?_ ?_
                                  rotate_left
                                  · intro w'
                                    go_simp
                                    with_reducible rfl
                                  rotate_left
                                  · simp only [Act.put, List.setIfInBounds_toArray, List.set_cons_zero, List.set_cons_succ, i64_w, i32_w]
                                    rfl
                                  refine one_ (i := 12) (N := some 11) #[true, true, true, true, true, true, true, true, true, true, true, true, true, false, false] rfl rfl (one_of HT_.out (by kernel_rfl)) (by decide) (fun K hK => ?_)
                                  refine box_step ?hg (N := 11) ?hd (cs := #[.int .i64 0, .int .i64 0, .int .i64 0, .int .i64 0]) (t := 25) ?hr ?_; (case hd => rfl); (case hg => rfl); (case hr => first | (go_simp; done) | (go_simp; rfl))
                                  intro gb527 hg w48 hbox hb
                                  have n0_ := Aside0.mk (Kd.R_below (Kd.R_elderB (by (with_reducible repeat (first | apply Kd.R_alloc | apply Kd.R_drewN | apply Kd.R_drew)); exact HO_5.out) gb527 (Nat.le_of_eq hg.symm)) hb)
                                  have n1_ := Aside0.mk (below_step blA hb)
                                  have n2_ := Aside0.mk (hbox)
                                  have n3_ := Aside0.mk (szA hg blA)
                                  have n4_ := Aside0.mk (szA hg blA)
                                  clear HO_5
                                  clear HB
                                  have HO_5 := n0_
                                  have HB := n1_
                                  have BK527 := n2_
                                  have GW527 := n3_
                                  have GE527 := n4_
                                  clear n0_ n1_ n2_ n3_ n4_
                                  clear hb hbox hg
                                  refine hK.out _ _ ⟨((HB.out.cell (World.block_lt_of_cell? w _ hw520_0)).trans hw520_0), ((HB.out.cell (World.block_lt_of_cell? w _ hw520_1)).trans hw520_1), ((HB.out.cell (World.block_lt_of_cell? w _ hw520_2)).trans hw520_2), ((HB.out.cell (World.block_lt_of_cell? w _ hw520_3)).trans hw520_3), ((HB.out.cell (World.block_lt_of_cell? w _ hw521_0)).trans hw521_0), ((HB.out.cell (World.block_lt_of_cell? w _ hw521_1)).trans hw521_1), ((HB.out.cell (World.block_lt_of_cell? w _ hw521_2)).trans hw521_2), ((HB.out.cell (World.block_lt_of_cell? w _ hw521_3)).trans hw521_3)⟩ (fun hHeld => ?_)
                                  clear hK K
                                  refine norm_ (a' := ?_) ?_ ?_
                                  rotate_left
                                  · show Act.put _ (some 11) _ = _
                                    simp only [Act.put, List.setIfInBounds_toArray, List.set_cons_zero, List.set_cons_succ, i64_w, i32_w]
                                    rfl
                                  exact norm_ (by simp only [putAll, Act.put, List.setIfInBounds_toArray, List.set_cons_zero, List.set_cons_succ]) (hCont (gb527) _ ⟨hHeld, (by (with_reducible repeat (first | apply Kd.R_alloc | apply Kd.R_drewN | apply Kd.R_drew)); exact Kd.R_mono HO_5.out (fun _ hk => hk.2)), (bkA BK527), GW527.out, GE527.out, blA⟩)
                                · skip
                                  refine box_step ?hg (N := 11) ?hd (cs := #[.int .i64 0, .int .i64 0, .int .i64 0, .int .i64 0]) (t := 25) ?hr ?_; (case hd => rfl); (case hg => rfl); (case hr => first | (go_simp; done) | (go_simp; rfl))
                                  intro gb527 hg w47 hbox hb
                                  have n0_ := Aside0.mk (Kd.R_below (Kd.R_elderB (by (with_reducible repeat (first | apply Kd.R_alloc | apply Kd.R_drewN | apply Kd.R_drew)); exact HO_5.out) gb527 (Nat.le_of_eq hg.symm)) hb)
                                  have n1_ := Aside0.mk (below_step blA hb)
                                  have n2_ := Aside0.mk (hbox)
                                  have n3_ := Aside0.mk (szA hg blA)
                                  have n4_ := Aside0.mk (szA hg blA)
                                  clear HO_5
                                  clear HB
                                  have HO_5 := n0_
                                  have HB := n1_
                                  have BK527 := n2_
                                  have GW527 := n3_
                                  have GE527 := n4_
                                  clear n0_ n1_ n2_ n3_ n4_
                                  clear hb hbox hg
                                  refine hK.out _ _ ⟨((HB.out.cell (World.block_lt_of_cell? w _ hw520_0)).trans hw520_0), ((HB.out.cell (World.block_lt_of_cell? w _ hw520_1)).trans hw520_1), ((HB.out.cell (World.block_lt_of_cell? w _ hw520_2)).trans hw520_2), ((HB.out.cell (World.block_lt_of_cell? w _ hw520_3)).trans hw520_3), ((HB.out.cell (World.block_lt_of_cell? w _ hw521_0)).trans hw521_0), ((HB.out.cell (World.block_lt_of_cell? w _ hw521_1)).trans hw521_1), ((HB.out.cell (World.block_lt_of_cell? w _ hw521_2)).trans hw521_2), ((HB.out.cell (World.block_lt_of_cell? w _ hw521_3)).trans hw521_3)⟩ (fun hHeld => ?_)
                                  clear hK K
                                  refine norm_ (a' := ?_) ?_ ?_
                                  rotate_left
                                  · show Act.put _ (some 11) _ = _
                                    simp only [Act.put, List.setIfInBounds_toArray, List.set_cons_zero, List.set_cons_succ, i64_w, i32_w]
                                    rfl
                                  refine one_ (i := 8) (N := some 58) #[true, true, true, true, true, true, true, true, true, false, false, false, true, false, false] rfl rfl (one_of HT_.out (by kernel_rfl)) (by decide) (fun K hK => ?_)
                                  refine goes_ Try.func71 (by kernel_rfl) rfl #[.agg #[.int .i64 ((rd_T25 l0 x9_2).f0.f0), .int .i64 ((rd_T25 l0 x9_2).f0.f1), .int .i64 ((rd_T25 l0 x9_2).f1.f0), .int .i64 ((rd_T25 l0 x9_2).f1.f1)], .agg #[.int .i64 ((rd_T25 l0 x10_3).f0.f0), .int .i64 ((rd_T25 l0 x10_3).f0.f1), .int .i64 ((rd_T25 l0 x10_3).f1.f0), .int .i64 ((rd_T25 l0 x10_3).f1.f1)]] (by rfl) rfl rfl (by (try simp only [List.map_toArray, List.map_cons, List.map_nil]); first | done | rfl | (simp only [List.length_drop, List.length_take]; rfl)) ?_
                                  with_reducible refine (spec_l04Times.calls k3 ((rd_T25 l0 x9_2).f0.f0) ((rd_T25 l0 x9_2).f0.f1) ((rd_T25 l0 x9_2).f1.f0) ((rd_T25 l0 x9_2).f1.f1) ((rd_T25 l0 x10_3).f0.f0) ((rd_T25 l0 x10_3).f0.f1) ((rd_T25 l0 x10_3).f1.f0) ((rd_T25 l0 x10_3).f1.f1) t522 t523 t524 t525 false _ A20.out).mono ?_
                                  rintro e w48 ⟨rfl, hb⟩
                                  refine ⟨_, rfl, ?_⟩
                                  have n0_ := Aside0.mk (Kd.R_below (by (with_reducible repeat (first | apply Kd.R_alloc | apply Kd.R_drewN | apply Kd.R_drew)); exact HO_5.out) hb)
                                  have n1_ := Aside0.mk (blk_below (bkA BK527) hb)
                                  have n2_ := Aside0.mk (below_step blA hb)
                                  clear HO_5
                                  clear BK527
                                  clear HB
                                  have HO_5 := n0_
                                  have BK527 := n1_
                                  have HB := n2_
                                  clear n0_ n1_ n2_
                                  (try clear hb)
                                  (try clear hb2)
                                  (try clear hk)
                                  (try clear hi)
                                  refine hK.out _ _ ⟨((HB.out.cell (World.block_lt_of_cell? w _ hw520_0)).trans hw520_0), ((HB.out.cell (World.block_lt_of_cell? w _ hw520_1)).trans hw520_1), ((HB.out.cell (World.block_lt_of_cell? w _ hw520_2)).trans hw520_2), ((HB.out.cell (World.block_lt_of_cell? w _ hw520_3)).trans hw520_3), ((HB.out.cell (World.block_lt_of_cell? w _ hw521_0)).trans hw521_0), ((HB.out.cell (World.block_lt_of_cell? w _ hw521_1)).trans hw521_1), ((HB.out.cell (World.block_lt_of_cell? w _ hw521_2)).trans hw521_2), ((HB.out.cell (World.block_lt_of_cell? w _ hw521_3)).trans hw521_3)⟩ (fun hHeld => ?_)
                                  clear hK K
                                  refine norm_ (a' := ?_) ?_ ?_
                                  rotate_left
                                  · show Act.put _ (some 58) _ = _
                                    simp only [Act.put, List.setIfInBounds_toArray, List.set_cons_zero, List.set_cons_succ, i64_w, i32_w]
                                    rfl
                                  refine pure_ (i := 9) (N := some 49) (v := ?_) (a' := ?_) #[true, true, true, true, true, true, true, true, true, true, false, false, true, false, false] rfl rfl (any_of HT_.out (by kernel_rfl)) (fun _ _ _ h => h) (Or.inl ⟨by rfl, ?_⟩) ?_ ?_
                                  rotate_left
                                  · intro w'
                                    go_simp
                                    with_reducible rfl
                                  rotate_left
                                  · simp only [Act.put, List.setIfInBounds_toArray, List.set_cons_zero, List.set_cons_succ, i64_w, i32_w]
                                    rfl
                                  refine pure_ (i := 10) (N := some 59) (v := ?_) (a' := ?_) #[true, true, true, true, true, true, true, true, true, true, true, false, true, false, false] rfl rfl (any_of HT_.out (by kernel_rfl)) (fun _ _ _ h => h) (Or.inl ⟨by rfl, ?_⟩) ?_ ?_
                                  rotate_left
                                  · intro w'
                                    go_simp
                                    with_reducible rfl
                                  rotate_left
                                  · simp only [Act.put, List.setIfInBounds_toArray, List.set_cons_zero, List.set_cons_succ, i64_w, i32_w]
                                    rfl
                                  refine pure_ (i := 11) (N := some 60) (v := ?_) (a' := ?_) #[true, true, true, true, true, true, true, true, true, true, true, true, true, false, false] rfl rfl (any_of HT_.out (by kernel_rfl)) (fun _ _ _ h => h) (Or.inl ⟨by rfl, ?_⟩) ?_ ?_
                                  rotate_left
                                  · intro w'
                                    go_simp
                                    with_reducible rfl
                                  rotate_left
                                  · simp only [Act.put, List.setIfInBounds_toArray, List.set_cons_zero, List.set_cons_succ, i64_w, i32_w]
                                    rfl
                                  exact norm_ (by simp only [putAll, Act.put, List.setIfInBounds_toArray, List.set_cons_zero, List.set_cons_succ]) (hCont (gb527) _ ⟨hHeld, (by (with_reducible repeat (first | apply Kd.R_alloc | apply Kd.R_drewN | apply Kd.R_drew)); exact Kd.R_mono HO_5.out (fun _ hk => hk.2)), (bkA BK527), GW527.out, GE527.out, blA⟩)
                              rintro gb527 w49 ⟨hS_, h0_, h1_, h2_, h3_, h4_⟩
                              have n0_ : Aside0 (Kd.R k25 25 w49 w.heap.size (fun k_ => k_ ≠ gb527) u5 x5_1) := ⟨h0_⟩
                              have n1_ : Aside0 (w49.heap[gb527]? = some (.cells #[.int .i64 0, .int .i64 0, .int .i64 0, .int .i64 0] 25 (0, 0))) := ⟨h1_⟩
                              have n2_ : Aside0 (w.heap.size ≤ gb527) := ⟨h2_⟩
                              have n3_ : Aside0 (w.heap.size ≤ gb527) := ⟨h3_⟩
                              have n4_ : Aside0 (Below w.heap.size w w49) := ⟨h4_⟩
                              clear HO_5
                              clear HB
                              clear h0_ h1_ h2_ h3_ h4_
                              have HO_5 := n0_
                              have BK527 := n1_
                              have GW527 := n2_
                              have GE527 := n3_
                              have HB := n4_
                              clear n0_ n1_ n2_ n3_ n4_
                              have hHeld : w49.cell? (ad520.add ((x9_2).toNat * 4)) = some (.int .i64 ((rd_T25 l0 x9_2).f0.f0)) ∧ w49.cell? ⟨(ad520.add ((x9_2).toNat * 4)).block, (ad520.add ((x9_2).toNat * 4)).off + 1, none⟩ = some (.int .i64 ((rd_T25 l0 x9_2).f0.f1)) ∧ w49.cell? ⟨(ad520.add ((x9_2).toNat * 4)).block, (ad520.add ((x9_2).toNat * 4)).off + 2, none⟩ = some (.int .i64 ((rd_T25 l0 x9_2).f1.f0)) ∧ w49.cell? ⟨(ad520.add ((x9_2).toNat * 4)).block, (ad520.add ((x9_2).toNat * 4)).off + 3, none⟩ = some (.int .i64 ((rd_T25 l0 x9_2).f1.f1)) ∧ w49.cell? (ad520.add ((x10_3).toNat * 4)) = some (.int .i64 ((rd_T25 l0 x10_3).f0.f0)) ∧ w49.cell? ⟨(ad520.add ((x10_3).toNat * 4)).block, (ad520.add ((x10_3).toNat * 4)).off + 1, none⟩ = some (.int .i64 ((rd_T25 l0 x10_3).f0.f1)) ∧ w49.cell? ⟨(ad520.add ((x10_3).toNat * 4)).block, (ad520.add ((x10_3).toNat * 4)).off + 2, none⟩ = some (.int .i64 ((rd_T25 l0 x10_3).f1.f0)) ∧ w49.cell? ⟨(ad520.add ((x10_3).toNat * 4)).block, (ad520.add ((x10_3).toNat * 4)).off + 3, none⟩ = some (.int .i64 ((rd_T25 l0 x10_3).f1.f1)) := hS_
                              refine norm_ (a' := ?_) ?_ ?_
                              rotate_left
                              · simp only [putAll, Act.put, List.setIfInBounds_toArray, List.set_cons_zero, List.set_cons_succ]
                                rfl
                              refine one_ (i := 13) (N := none) #[true, true, true, true, true, true, true, true, true, true, true, true, true, true, false] rfl rfl (one_of HT_.out (by kernel_rfl)) (by decide) (fun K hK => ?_)
                              have hs50 : w49.cell? ⟨gb527, 0, none⟩ = some (.int .i64 0) := (blk_cell BK527.out 0).trans rfl
                              have hfs50 := blk_frozen BK527.out 0
                              have hs51 : w49.cell? ⟨gb527, 1, none⟩ = some (.int .i64 0) := (blk_cell BK527.out 1).trans rfl
                              have hfs51 := blk_frozen BK527.out 1
                              have hs52 : w49.cell? ⟨gb527, 2, none⟩ = some (.int .i64 0) := (blk_cell BK527.out 2).trans rfl
                              have hfs52 := blk_frozen BK527.out 2
                              have hs53 : w49.cell? ⟨gb527, 3, none⟩ = some (.int .i64 0) := (blk_cell BK527.out 3).trans rfl
                              have hfs53 := blk_frozen BK527.out 3
                              refine skip_ (w1 := ?_) (by rfl) rfl ?_ ?_
                              rotate_left
                              · go_simp
                                rfl
                              refine hK.out _ _ ⟨((cell_far (p := ⟨gb527, _, none⟩) (by first | exact Nat.ne_of_lt (Nat.lt_of_lt_of_le (by have := World.block_lt_of_cell? _ _ hw520_0; first | rwa [add_block] at this | exact this) GW527.out) | (rw [add_block]; exact Nat.ne_of_lt (Nat.lt_of_lt_of_le (by have := World.block_lt_of_cell? _ _ hw520_0; first | rwa [add_block] at this | exact this) GW527.out)) | (show (Addr.add _ _).block ≠ _; rw [add_block]; exact Nat.ne_of_lt (Nat.lt_of_lt_of_le (by have := World.block_lt_of_cell? _ _ hw520_0; first | rwa [add_block] at this | exact this) GW527.out)) | (dsimp only; exact Nat.ne_of_lt (Nat.lt_of_lt_of_le (by have := World.block_lt_of_cell? _ _ hw520_0; first | rwa [add_block] at this | exact this) GW527.out))) _).trans (((cell_far (p := ⟨gb527, _, none⟩) (by first | exact Nat.ne_of_lt (Nat.lt_of_lt_of_le (by have := World.block_lt_of_cell? _ _ hw520_0; first | rwa [add_block] at this | exact this) GW527.out) | (rw [add_block]; exact Nat.ne_of_lt (Nat.lt_of_lt_of_le (by have := World.block_lt_of_cell? _ _ hw520_0; first | rwa [add_block] at this | exact this) GW527.out)) | (show (Addr.add _ _).block ≠ _; rw [add_block]; exact Nat.ne_of_lt (Nat.lt_of_lt_of_le (by have := World.block_lt_of_cell? _ _ hw520_0; first | rwa [add_block] at this | exact this) GW527.out)) | (dsimp only; exact Nat.ne_of_lt (Nat.lt_of_lt_of_le (by have := World.block_lt_of_cell? _ _ hw520_0; first | rwa [add_block] at this | exact this) GW527.out))) _).trans (((cell_far (p := ⟨gb527, _, none⟩) (by first | exact Nat.ne_of_lt (Nat.lt_of_lt_of_le (by have := World.block_lt_of_cell? _ _ hw520_0; first | rwa [add_block] at this | exact this) GW527.out) | (rw [add_block]; exact Nat.ne_of_lt (Nat.lt_of_lt_of_le (by have := World.block_lt_of_cell? _ _ hw520_0; first | rwa [add_block] at this | exact this) GW527.out)) | (show (Addr.add _ _).block ≠ _; rw [add_block]; exact Nat.ne_of_lt (Nat.lt_of_lt_of_le (by have := World.block_lt_of_cell? _ _ hw520_0; first | rwa [add_block] at this | exact this) GW527.out)) | (dsimp only; exact Nat.ne_of_lt (Nat.lt_of_lt_of_le (by have := World.block_lt_of_cell? _ _ hw520_0; first | rwa [add_block] at this | exact this) GW527.out))) _).trans (((cell_far (p := ⟨gb527, _, none⟩) (by first | exact Nat.ne_of_lt (Nat.lt_of_lt_of_le (by have := World.block_lt_of_cell? _ _ hw520_0; first | rwa [add_block] at this | exact this) GW527.out) | (rw [add_block]; exact Nat.ne_of_lt (Nat.lt_of_lt_of_le (by have := World.block_lt_of_cell? _ _ hw520_0; first | rwa [add_block] at this | exact this) GW527.out)) | (show (Addr.add _ _).block ≠ _; rw [add_block]; exact Nat.ne_of_lt (Nat.lt_of_lt_of_le (by have := World.block_lt_of_cell? _ _ hw520_0; first | rwa [add_block] at this | exact this) GW527.out)) | (dsimp only; exact Nat.ne_of_lt (Nat.lt_of_lt_of_le (by have := World.block_lt_of_cell? _ _ hw520_0; first | rwa [add_block] at this | exact this) GW527.out))) _).trans (hHeld.1)))))))), ((cell_far (p := ⟨gb527, _, none⟩) (by first | exact Nat.ne_of_lt (Nat.lt_of_lt_of_le (by have := World.block_lt_of_cell? _ _ hw520_1; first | rwa [add_block] at this | exact this) GW527.out) | (rw [add_block]; exact Nat.ne_of_lt (Nat.lt_of_lt_of_le (by have := World.block_lt_of_cell? _ _ hw520_1; first | rwa [add_block] at this | exact this) GW527.out)) | (show (Addr.add _ _).block ≠ _; rw [add_block]; exact Nat.ne_of_lt (Nat.lt_of_lt_of_le (by have := World.block_lt_of_cell? _ _ hw520_1; first | rwa [add_block] at this | exact this) GW527.out)) | (dsimp only; exact Nat.ne_of_lt (Nat.lt_of_lt_of_le (by have := World.block_lt_of_cell? _ _ hw520_1; first | rwa [add_block] at this | exact this) GW527.out))) _).trans (((cell_far (p := ⟨gb527, _, none⟩) (by first | exact Nat.ne_of_lt (Nat.lt_of_lt_of_le (by have := World.block_lt_of_cell? _ _ hw520_1; first | rwa [add_block] at this | exact this) GW527.out) | (rw [add_block]; exact Nat.ne_of_lt (Nat.lt_of_lt_of_le (by have := World.block_lt_of_cell? _ _ hw520_1; first | rwa [add_block] at this | exact this) GW527.out)) | (show (Addr.add _ _).block ≠ _; rw [add_block]; exact Nat.ne_of_lt (Nat.lt_of_lt_of_le (by have := World.block_lt_of_cell? _ _ hw520_1; first | rwa [add_block] at this | exact this) GW527.out)) | (dsimp only; exact Nat.ne_of_lt (Nat.lt_of_lt_of_le (by have := World.block_lt_of_cell? _ _ hw520_1; first | rwa [add_block] at this | exact this) GW527.out))) _).trans (((cell_far (p := ⟨gb527, _, none⟩) (by first | exact Nat.ne_of_lt (Nat.lt_of_lt_of_le (by have := World.block_lt_of_cell? _ _ hw520_1; first | rwa [add_block] at this | exact this) GW527.out) | (rw [add_block]; exact Nat.ne_of_lt (Nat.lt_of_lt_of_le (by have := World.block_lt_of_cell? _ _ hw520_1; first | rwa [add_block] at this | exact this) GW527.out)) | (show (Addr.add _ _).block ≠ _; rw [add_block]; exact Nat.ne_of_lt (Nat.lt_of_lt_of_le (by have := World.block_lt_of_cell? _ _ hw520_1; first | rwa [add_block] at this | exact this) GW527.out)) | (dsimp only; exact Nat.ne_of_lt (Nat.lt_of_lt_of_le (by have := World.block_lt_of_cell? _ _ hw520_1; first | rwa [add_block] at this | exact this) GW527.out))) _).trans (((cell_far (p := ⟨gb527, _, none⟩) (by first | exact Nat.ne_of_lt (Nat.lt_of_lt_of_le (by have := World.block_lt_of_cell? _ _ hw520_1; first | rwa [add_block] at this | exact this) GW527.out) | (rw [add_block]; exact Nat.ne_of_lt (Nat.lt_of_lt_of_le (by have := World.block_lt_of_cell? _ _ hw520_1; first | rwa [add_block] at this | exact this) GW527.out)) | (show (Addr.add _ _).block ≠ _; rw [add_block]; exact Nat.ne_of_lt (Nat.lt_of_lt_of_le (by have := World.block_lt_of_cell? _ _ hw520_1; first | rwa [add_block] at this | exact this) GW527.out)) | (dsimp only; exact Nat.ne_of_lt (Nat.lt_of_lt_of_le (by have := World.block_lt_of_cell? _ _ hw520_1; first | rwa [add_block] at this | exact this) GW527.out))) _).trans (hHeld.2.1)))))))), ((cell_far (p := ⟨gb527, _, none⟩) (by first | exact Nat.ne_of_lt (Nat.lt_of_lt_of_le (by have := World.block_lt_of_cell? _ _ hw520_2; first | rwa [add_block] at this | exact this) GW527.out) | (rw [add_block]; exact Nat.ne_of_lt (Nat.lt_of_lt_of_le (by have := World.block_lt_of_cell? _ _ hw520_2; first | rwa [add_block] at this | exact this) GW527.out)) | (show (Addr.add _ _).block ≠ _; rw [add_block]; exact Nat.ne_of_lt (Nat.lt_of_lt_of_le (by have := World.block_lt_of_cell? _ _ hw520_2; first | rwa [add_block] at this | exact this) GW527.out)) | (dsimp only; exact Nat.ne_of_lt (Nat.lt_of_lt_of_le (by have := World.block_lt_of_cell? _ _ hw520_2; first | rwa [add_block] at this | exact this) GW527.out))) _).trans (((cell_far (p := ⟨gb527, _, none⟩) (by first | exact Nat.ne_of_lt (Nat.lt_of_lt_of_le (by have := World.block_lt_of_cell? _ _ hw520_2; first | rwa [add_block] at this | exact this) GW527.out) | (rw [add_block]; exact Nat.ne_of_lt (Nat.lt_of_lt_of_le (by have := World.block_lt_of_cell? _ _ hw520_2; first | rwa [add_block] at this | exact this) GW527.out)) | (show (Addr.add _ _).block ≠ _; rw [add_block]; exact Nat.ne_of_lt (Nat.lt_of_lt_of_le (by have := World.block_lt_of_cell? _ _ hw520_2; first | rwa [add_block] at this | exact this) GW527.out)) | (dsimp only; exact Nat.ne_of_lt (Nat.lt_of_lt_of_le (by have := World.block_lt_of_cell? _ _ hw520_2; first | rwa [add_block] at this | exact this) GW527.out))) _).trans (((cell_far (p := ⟨gb527, _, none⟩) (by first | exact Nat.ne_of_lt (Nat.lt_of_lt_of_le (by have := World.block_lt_of_cell? _ _ hw520_2; first | rwa [add_block] at this | exact this) GW527.out) | (rw [add_block]; exact Nat.ne_of_lt (Nat.lt_of_lt_of_le (by have := World.block_lt_of_cell? _ _ hw520_2; first | rwa [add_block] at this | exact this) GW527.out)) | (show (Addr.add _ _).block ≠ _; rw [add_block]; exact Nat.ne_of_lt (Nat.lt_of_lt_of_le (by have := World.block_lt_of_cell? _ _ hw520_2; first | rwa [add_block] at this | exact this) GW527.out)) | (dsimp only; exact Nat.ne_of_lt (Nat.lt_of_lt_of_le (by have := World.block_lt_of_cell? _ _ hw520_2; first | rwa [add_block] at this | exact this) GW527.out))) _).trans (((cell_far (p := ⟨gb527, _, none⟩) (by first | exact Nat.ne_of_lt (Nat.lt_of_lt_of_le (by have := World.block_lt_of_cell? _ _ hw520_2; first | rwa [add_block] at this | exact this) GW527.out) | (rw [add_block]; exact Nat.ne_of_lt (Nat.lt_of_lt_of_le (by have := World.block_lt_of_cell? _ _ hw520_2; first | rwa [add_block] at this | exact this) GW527.out)) | (show (Addr.add _ _).block ≠ _; rw [add_block]; exact Nat.ne_of_lt (Nat.lt_of_lt_of_le (by have := World.block_lt_of_cell? _ _ hw520_2; first | rwa [add_block] at this | exact this) GW527.out)) | (dsimp only; exact Nat.ne_of_lt (Nat.lt_of_lt_of_le (by have := World.block_lt_of_cell? _ _ hw520_2; first | rwa [add_block] at this | exact this) GW527.out))) _).trans (hHeld.2.2.1)))))))), ((cell_far (p := ⟨gb527, _, none⟩) (by first | exact Nat.ne_of_lt (Nat.lt_of_lt_of_le (by have := World.block_lt_of_cell? _ _ hw520_3; first | rwa [add_block] at this | exact this) GW527.out) | (rw [add_block]; exact Nat.ne_of_lt (Nat.lt_of_lt_of_le (by have := World.block_lt_of_cell? _ _ hw520_3; first | rwa [add_block] at this | exact this) GW527.out)) | (show (Addr.add _ _).block ≠ _; rw [add_block]; exact Nat.ne_of_lt (Nat.lt_of_lt_of_le (by have := World.block_lt_of_cell? _ _ hw520_3; first | rwa [add_block] at this | exact this) GW527.out)) | (dsimp only; exact Nat.ne_of_lt (Nat.lt_of_lt_of_le (by have := World.block_lt_of_cell? _ _ hw520_3; first | rwa [add_block] at this | exact this) GW527.out))) _).trans (((cell_far (p := ⟨gb527, _, none⟩) (by first | exact Nat.ne_of_lt (Nat.lt_of_lt_of_le (by have := World.block_lt_of_cell? _ _ hw520_3; first | rwa [add_block] at this | exact this) GW527.out) | (rw [add_block]; exact Nat.ne_of_lt (Nat.lt_of_lt_of_le (by have := World.block_lt_of_cell? _ _ hw520_3; first | rwa [add_block] at this | exact this) GW527.out)) | (show (Addr.add _ _).block ≠ _; rw [add_block]; exact Nat.ne_of_lt (Nat.lt_of_lt_of_le (by have := World.block_lt_of_cell? _ _ hw520_3; first | rwa [add_block] at this | exact this) GW527.out)) | (dsimp only; exact Nat.ne_of_lt (Nat.lt_of_lt_of_le (by have := World.block_lt_of_cell? _ _ hw520_3; first | rwa [add_block] at this | exact this) GW527.out))) _).trans (((cell_far (p := ⟨gb527, _, none⟩) (by first | exact Nat.ne_of_lt (Nat.lt_of_lt_of_le (by have := World.block_lt_of_cell? _ _ hw520_3; first | rwa [add_block] at this | exact this) GW527.out) | (rw [add_block]; exact Nat.ne_of_lt (Nat.lt_of_lt_of_le (by have := World.block_lt_of_cell? _ _ hw520_3; first | rwa [add_block] at this | exact this) GW527.out)) | (show (Addr.add _ _).block ≠ _; rw [add_block]; exact Nat.ne_of_lt (Nat.lt_of_lt_of_le (by have := World.block_lt_of_cell? _ _ hw520_3; first | rwa [add_block] at this | exact this) GW527.out)) | (dsimp only; exact Nat.ne_of_lt (Nat.lt_of_lt_of_le (by have := World.block_lt_of_cell? _ _ hw520_3; first | rwa [add_block] at this | exact this) GW527.out))) _).trans (((cell_far (p := ⟨gb527, _, none⟩) (by first | exact Nat.ne_of_lt (Nat.lt_of_lt_of_le (by have := World.block_lt_of_cell? _ _ hw520_3; first | rwa [add_block] at this | exact this) GW527.out) | (rw [add_block]; exact Nat.ne_of_lt (Nat.lt_of_lt_of_le (by have := World.block_lt_of_cell? _ _ hw520_3; first | rwa [add_block] at this | exact this) GW527.out)) | (show (Addr.add _ _).block ≠ _; rw [add_block]; exact Nat.ne_of_lt (Nat.lt_of_lt_of_le (by have := World.block_lt_of_cell? _ _ hw520_3; first | rwa [add_block] at this | exact this) GW527.out)) | (dsimp only; exact Nat.ne_of_lt (Nat.lt_of_lt_of_le (by have := World.block_lt_of_cell? _ _ hw520_3; first | rwa [add_block] at this | exact this) GW527.out))) _).trans (hHeld.2.2.2.1)))))))), ((cell_far (p := ⟨gb527, _, none⟩) (by first | exact Nat.ne_of_lt (Nat.lt_of_lt_of_le (by have := World.block_lt_of_cell? _ _ hw521_0; first | rwa [add_block] at this | exact this) GW527.out) | (rw [add_block]; exact Nat.ne_of_lt (Nat.lt_of_lt_of_le (by have := World.block_lt_of_cell? _ _ hw521_0; first | rwa [add_block] at this | exact this) GW527.out)) | (show (Addr.add _ _).block ≠ _; rw [add_block]; exact Nat.ne_of_lt (Nat.lt_of_lt_of_le (by have := World.block_lt_of_cell? _ _ hw521_0; first | rwa [add_block] at this | exact this) GW527.out)) | (dsimp only; exact Nat.ne_of_lt (Nat.lt_of_lt_of_le (by have := World.block_lt_of_cell? _ _ hw521_0; first | rwa [add_block] at this | exact this) GW527.out))) _).trans (((cell_far (p := ⟨gb527, _, none⟩) (by first | exact Nat.ne_of_lt (Nat.lt_of_lt_of_le (by have := World.block_lt_of_cell? _ _ hw521_0; first | rwa [add_block] at this | exact this) GW527.out) | (rw [add_block]; exact Nat.ne_of_lt (Nat.lt_of_lt_of_le (by have := World.block_lt_of_cell? _ _ hw521_0; first | rwa [add_block] at this | exact this) GW527.out)) | (show (Addr.add _ _).block ≠ _; rw [add_block]; exact Nat.ne_of_lt (Nat.lt_of_lt_of_le (by have := World.block_lt_of_cell? _ _ hw521_0; first | rwa [add_block] at this | exact this) GW527.out)) | (dsimp only; exact Nat.ne_of_lt (Nat.lt_of_lt_of_le (by have := World.block_lt_of_cell? _ _ hw521_0; first | rwa [add_block] at this | exact this) GW527.out))) _).trans (((cell_far (p := ⟨gb527, _, none⟩) (by first | exact Nat.ne_of_lt (Nat.lt_of_lt_of_le (by have := World.block_lt_of_cell? _ _ hw521_0; first | rwa [add_block] at this | exact this) GW527.out) | (rw [add_block]; exact Nat.ne_of_lt (Nat.lt_of_lt_of_le (by have := World.block_lt_of_cell? _ _ hw521_0; first | rwa [add_block] at this | exact this) GW527.out)) | (show (Addr.add _ _).block ≠ _; rw [add_block]; exact Nat.ne_of_lt (Nat.lt_of_lt_of_le (by have := World.block_lt_of_cell? _ _ hw521_0; first | rwa [add_block] at this | exact this) GW527.out)) | (dsimp only; exact Nat.ne_of_lt (Nat.lt_of_lt_of_le (by have := World.block_lt_of_cell? _ _ hw521_0; first | rwa [add_block] at this | exact this) GW527.out))) _).trans (((cell_far (p := ⟨gb527, _, none⟩) (by first | exact Nat.ne_of_lt (Nat.lt_of_lt_of_le (by have := World.block_lt_of_cell? _ _ hw521_0; first | rwa [add_block] at this | exact this) GW527.out) | (rw [add_block]; exact Nat.ne_of_lt (Nat.lt_of_lt_of_le (by have := World.block_lt_of_cell? _ _ hw521_0; first | rwa [add_block] at this | exact this) GW527.out)) | (show (Addr.add _ _).block ≠ _; rw [add_block]; exact Nat.ne_of_lt (Nat.lt_of_lt_of_le (by have := World.block_lt_of_cell? _ _ hw521_0; first | rwa [add_block] at this | exact this) GW527.out)) | (dsimp only; exact Nat.ne_of_lt (Nat.lt_of_lt_of_le (by have := World.block_lt_of_cell? _ _ hw521_0; first | rwa [add_block] at this | exact this) GW527.out))) _).trans (hHeld.2.2.2.2.1)))))))), ((cell_far (p := ⟨gb527, _, none⟩) (by first | exact Nat.ne_of_lt (Nat.lt_of_lt_of_le (by have := World.block_lt_of_cell? _ _ hw521_1; first | rwa [add_block] at this | exact this) GW527.out) | (rw [add_block]; exact Nat.ne_of_lt (Nat.lt_of_lt_of_le (by have := World.block_lt_of_cell? _ _ hw521_1; first | rwa [add_block] at this | exact this) GW527.out)) | (show (Addr.add _ _).block ≠ _; rw [add_block]; exact Nat.ne_of_lt (Nat.lt_of_lt_of_le (by have := World.block_lt_of_cell? _ _ hw521_1; first | rwa [add_block] at this | exact this) GW527.out)) | (dsimp only; exact Nat.ne_of_lt (Nat.lt_of_lt_of_le (by have := World.block_lt_of_cell? _ _ hw521_1; first | rwa [add_block] at this | exact this) GW527.out))) _).trans (((cell_far (p := ⟨gb527, _, none⟩) (by first | exact Nat.ne_of_lt (Nat.lt_of_lt_of_le (by have := World.block_lt_of_cell? _ _ hw521_1; first | rwa [add_block] at this | exact this) GW527.out) | (rw [add_block]; exact Nat.ne_of_lt (Nat.lt_of_lt_of_le (by have := World.block_lt_of_cell? _ _ hw521_1; first | rwa [add_block] at this | exact this) GW527.out)) | (show (Addr.add _ _).block ≠ _; rw [add_block]; exact Nat.ne_of_lt (Nat.lt_of_lt_of_le (by have := World.block_lt_of_cell? _ _ hw521_1; first | rwa [add_block] at this | exact this) GW527.out)) | (dsimp only; exact Nat.ne_of_lt (Nat.lt_of_lt_of_le (by have := World.block_lt_of_cell? _ _ hw521_1; first | rwa [add_block] at this | exact this) GW527.out))) _).trans (((cell_far (p := ⟨gb527, _, none⟩) (by first | exact Nat.ne_of_lt (Nat.lt_of_lt_of_le (by have := World.block_lt_of_cell? _ _ hw521_1; first | rwa [add_block] at this | exact this) GW527.out) | (rw [add_block]; exact Nat.ne_of_lt (Nat.lt_of_lt_of_le (by have := World.block_lt_of_cell? _ _ hw521_1; first | rwa [add_block] at this | exact this) GW527.out)) | (show (Addr.add _ _).block ≠ _; rw [add_block]; exact Nat.ne_of_lt (Nat.lt_of_lt_of_le (by have := World.block_lt_of_cell? _ _ hw521_1; first | rwa [add_block] at this | exact this) GW527.out)) | (dsimp only; exact Nat.ne_of_lt (Nat.lt_of_lt_of_le (by have := World.block_lt_of_cell? _ _ hw521_1; first | rwa [add_block] at this | exact this) GW527.out))) _).trans (((cell_far (p := ⟨gb527, _, none⟩) (by first | exact Nat.ne_of_lt (Nat.lt_of_lt_of_le (by have := World.block_lt_of_cell? _ _ hw521_1; first | rwa [add_block] at this | exact this) GW527.out) | (rw [add_block]; exact Nat.ne_of_lt (Nat.lt_of_lt_of_le (by have := World.block_lt_of_cell? _ _ hw521_1; first | rwa [add_block] at this | exact this) GW527.out)) | (show (Addr.add _ _).block ≠ _; rw [add_block]; exact Nat.ne_of_lt (Nat.lt_of_lt_of_le (by have := World.block_lt_of_cell? _ _ hw521_1; first | rwa [add_block] at this | exact this) GW527.out)) | (dsimp only; exact Nat.ne_of_lt (Nat.lt_of_lt_of_le (by have := World.block_lt_of_cell? _ _ hw521_1; first | rwa [add_block] at this | exact this) GW527.out))) _).trans (hHeld.2.2.2.2.2.1)))))))), ((cell_far (p := ⟨gb527, _, none⟩) (by first | exact Nat.ne_of_lt (Nat.lt_of_lt_of_le (by have := World.block_lt_of_cell? _ _ hw521_2; first | rwa [add_block] at this | exact this) GW527.out) | (rw [add_block]; exact Nat.ne_of_lt (Nat.lt_of_lt_of_le (by have := World.block_lt_of_cell? _ _ hw521_2; first | rwa [add_block] at this | exact this) GW527.out)) | (show (Addr.add _ _).block ≠ _; rw [add_block]; exact Nat.ne_of_lt (Nat.lt_of_lt_of_le (by have := World.block_lt_of_cell? _ _ hw521_2; first | rwa [add_block] at this | exact this) GW527.out)) | (dsimp only; exact Nat.ne_of_lt (Nat.lt_of_lt_of_le (by have := World.block_lt_of_cell? _ _ hw521_2; first | rwa [add_block] at this | exact this) GW527.out))) _).trans (((cell_far (p := ⟨gb527, _, none⟩) (by first | exact Nat.ne_of_lt (Nat.lt_of_lt_of_le (by have := World.block_lt_of_cell? _ _ hw521_2; first | rwa [add_block] at this | exact this) GW527.out) | (rw [add_block]; exact Nat.ne_of_lt (Nat.lt_of_lt_of_le (by have := World.block_lt_of_cell? _ _ hw521_2; first | rwa [add_block] at this | exact this) GW527.out)) | (show (Addr.add _ _).block ≠ _; rw [add_block]; exact Nat.ne_of_lt (Nat.lt_of_lt_of_le (by have := World.block_lt_of_cell? _ _ hw521_2; first | rwa [add_block] at this | exact this) GW527.out)) | (dsimp only; exact Nat.ne_of_lt (Nat.lt_of_lt_of_le (by have := World.block_lt_of_cell? _ _ hw521_2; first | rwa [add_block] at this | exact this) GW527.out))) _).trans (((cell_far (p := ⟨gb527, _, none⟩) (by first | exact Nat.ne_of_lt (Nat.lt_of_lt_of_le (by have := World.block_lt_of_cell? _ _ hw521_2; first | rwa [add_block] at this | exact this) GW527.out) | (rw [add_block]; exact Nat.ne_of_lt (Nat.lt_of_lt_of_le (by have := World.block_lt_of_cell? _ _ hw521_2; first | rwa [add_block] at this | exact this) GW527.out)) | (show (Addr.add _ _).block ≠ _; rw [add_block]; exact Nat.ne_of_lt (Nat.lt_of_lt_of_le (by have := World.block_lt_of_cell? _ _ hw521_2; first | rwa [add_block] at this | exact this) GW527.out)) | (dsimp only; exact Nat.ne_of_lt (Nat.lt_of_lt_of_le (by have := World.block_lt_of_cell? _ _ hw521_2; first | rwa [add_block] at this | exact this) GW527.out))) _).trans (((cell_far (p := ⟨gb527, _, none⟩) (by first | exact Nat.ne_of_lt (Nat.lt_of_lt_of_le (by have := World.block_lt_of_cell? _ _ hw521_2; first | rwa [add_block] at this | exact this) GW527.out) | (rw [add_block]; exact Nat.ne_of_lt (Nat.lt_of_lt_of_le (by have := World.block_lt_of_cell? _ _ hw521_2; first | rwa [add_block] at this | exact this) GW527.out)) | (show (Addr.add _ _).block ≠ _; rw [add_block]; exact Nat.ne_of_lt (Nat.lt_of_lt_of_le (by have := World.block_lt_of_cell? _ _ hw521_2; first | rwa [add_block] at this | exact this) GW527.out)) | (dsimp only; exact Nat.ne_of_lt (Nat.lt_of_lt_of_le (by have := World.block_lt_of_cell? _ _ hw521_2; first | rwa [add_block] at this | exact this) GW527.out))) _).trans (hHeld.2.2.2.2.2.2.1)))))))), ((cell_far (p := ⟨gb527, _, none⟩) (by first | exact Nat.ne_of_lt (Nat.lt_of_lt_of_le (by have := World.block_lt_of_cell? _ _ hw521_3; first | rwa [add_block] at this | exact this) GW527.out) | (rw [add_block]; exact Nat.ne_of_lt (Nat.lt_of_lt_of_le (by have := World.block_lt_of_cell? _ _ hw521_3; first | rwa [add_block] at this | exact this) GW527.out)) | (show (Addr.add _ _).block ≠ _; rw [add_block]; exact Nat.ne_of_lt (Nat.lt_of_lt_of_le (by have := World.block_lt_of_cell? _ _ hw521_3; first | rwa [add_block] at this | exact this) GW527.out)) | (dsimp only; exact Nat.ne_of_lt (Nat.lt_of_lt_of_le (by have := World.block_lt_of_cell? _ _ hw521_3; first | rwa [add_block] at this | exact this) GW527.out))) _).trans (((cell_far (p := ⟨gb527, _, none⟩) (by first | exact Nat.ne_of_lt (Nat.lt_of_lt_of_le (by have := World.block_lt_of_cell? _ _ hw521_3; first | rwa [add_block] at this | exact this) GW527.out) | (rw [add_block]; exact Nat.ne_of_lt (Nat.lt_of_lt_of_le (by have := World.block_lt_of_cell? _ _ hw521_3; first | rwa [add_block] at this | exact this) GW527.out)) | (show (Addr.add _ _).block ≠ _; rw [add_block]; exact Nat.ne_of_lt (Nat.lt_of_lt_of_le (by have := World.block_lt_of_cell? _ _ hw521_3; first | rwa [add_block] at this | exact this) GW527.out)) | (dsimp only; exact Nat.ne_of_lt (Nat.lt_of_lt_of_le (by have := World.block_lt_of_cell? _ _ hw521_3; first | rwa [add_block] at this | exact this) GW527.out))) _).trans (((cell_far (p := ⟨gb527, _, none⟩) (by first | exact Nat.ne_of_lt (Nat.lt_of_lt_of_le (by have := World.block_lt_of_cell? _ _ hw521_3; first | rwa [add_block] at this | exact this) GW527.out) | (rw [add_block]; exact Nat.ne_of_lt (Nat.lt_of_lt_of_le (by have := World.block_lt_of_cell? _ _ hw521_3; first | rwa [add_block] at this | exact this) GW527.out)) | (show (Addr.add _ _).block ≠ _; rw [add_block]; exact Nat.ne_of_lt (Nat.lt_of_lt_of_le (by have := World.block_lt_of_cell? _ _ hw521_3; first | rwa [add_block] at this | exact this) GW527.out)) | (dsimp only; exact Nat.ne_of_lt (Nat.lt_of_lt_of_le (by have := World.block_lt_of_cell? _ _ hw521_3; first | rwa [add_block] at this | exact this) GW527.out))) _).trans (((cell_far (p := ⟨gb527, _, none⟩) (by first | exact Nat.ne_of_lt (Nat.lt_of_lt_of_le (by have := World.block_lt_of_cell? _ _ hw521_3; first | rwa [add_block] at this | exact this) GW527.out) | (rw [add_block]; exact Nat.ne_of_lt (Nat.lt_of_lt_of_le (by have := World.block_lt_of_cell? _ _ hw521_3; first | rwa [add_block] at this | exact this) GW527.out)) | (show (Addr.add _ _).block ≠ _; rw [add_block]; exact Nat.ne_of_lt (Nat.lt_of_lt_of_le (by have := World.block_lt_of_cell? _ _ hw521_3; first | rwa [add_block] at this | exact this) GW527.out)) | (dsimp only; exact Nat.ne_of_lt (Nat.lt_of_lt_of_le (by have := World.block_lt_of_cell? _ _ hw521_3; first | rwa [add_block] at this | exact this) GW527.out))) _).trans (hHeld.2.2.2.2.2.2.2))))))))⟩ (fun hHeld => ?_)
                              clear hK K
                              refine pure_ (i := 14) (N := some 12) (v := ?_) (a' := ?_) #[true, true, true, true, true, true, true, true, true, true, true, true, true, true, true] rfl rfl (any_of HT_.out (by kernel_rfl)) (fun _ _ _ h => h) (Or.inl ⟨by rfl, ?_⟩) ?_ ?_
                              rotate_left
                              · intro w'
                                go_simp
                                with_reducible rfl
                              rotate_left
                              · simp only [Act.put, List.setIfInBounds_toArray, List.set_cons_zero, List.set_cons_succ, i64_w, i32_w]
                                rfl
                              refine done_ (done_of HT_.out (by kernel_rfl)) ?_
                              try go_wp2
                              go_ret2
                              exact ⟨by first | rfl | (simp [errW_none, errW_some] <;> rfl) | (simp [*, errW_none, errW_some] <;> rfl), blA⟩
                          · rw [if_neg c19] at H
                            exact absurd H (by simp)
                        · rw [if_neg c18] at H
                          exact absurd H (by simp)
                      · rw [if_neg c17] at H
                        exact absurd H (by simp)
                    · rw [if_neg c16] at H
                      have c16b0 : decide (x10_3 < (l0.length : Int)) = false := decide_eq_false c16
                      clear c16
                      have H' := Aside0.mk H
                      clear H
                      go_wp2
                      go_roundg k3
                      case measure => have := HK1.out; have := HK2.out; have := HK3.out; omega
                      case rel => exact ⟨(wrap64 (x9_2 + 1)), (by first | rfl | (simp; done) | (simp [*]; done)), H', ⟨by have := HK1.out; have := HK2.out; have := HK3.out; omega⟩, ⟨by (with_reducible repeat (first | apply Kd.R_alloc | apply Kd.R_drewN | apply Kd.R_drew)); exact HO_5.out⟩, ⟨blA⟩⟩
              · rw [if_neg c15] at H
                have c15b0 : decide (x9_2 < (l0.length : Int)) = false := decide_eq_false c15
                clear c15
                simp only [Option.some.injEq, Prod.mk.injEq] at H
                obtain ⟨rfl, rfl⟩ := H
                go_wp2
                go_ret2
                exact ⟨by first | rfl | (simp [errW_none, errW_some] <;> rfl) | (simp [*, errW_none, errW_some] <;> rfl), blA⟩
  · rw [if_neg c3] at H
    have c3b0 : (t506 == 0) = false := beq_eq_false_iff_ne.mpr c3
    have c3b1 : (t506 != 0) = true := bne_iff_ne.mpr c3
    simp only [Option.some.injEq, Prod.mk.injEq] at H
    obtain ⟨rfl, rfl⟩ := H
    go_enter Try.func36, Try.ntmps36
    go_wp2_with (first | ((with_reducible refine gate_callee (f := 74) rfl ?_); refine goesL_ (some 14) rfl rfl Try.func74 (by kernel_rfl) rfl #[.slice A0 l0.length c0, .int .i64 48] rfl (by (try simp only [List.map_toArray, List.map_cons, List.map_nil]); first | done | rfl | (simp only [List.length_drop, List.length_take]; rfl)) ?_; (with_reducible refine (spec_l06Movers.calls k _ _ l0 48 t506 _ ?side1 ?side2 A2.out).mono ?_); (case side1 => repeat (first | exact HR0.out | (with_reducible refine Kd.C_alloc ?_ _) | (with_reducible refine Kd.C_drewN ?_ _) | (with_reducible refine Kd.C_drew ?_))); (case side2 => exact HC0.out); rintro e w54 ⟨rfl, hb⟩; refine ⟨_, rfl, ?_⟩; have n0_ := Aside0.mk (below_step blA hb); clear HB; have HB := n0_; clear n0_; (try clear hb); (try clear hb2); (try clear hk); (try clear hi)))
    go_ret2
    exact ⟨by first | rfl | (simp [errW_none, errW_some] <;> rfl) | (simp [*, errW_none, errW_some] <;> rfl), blA⟩
end Go.Proofs.Ytmhajnfdbjnegaa.PAll
