-- turned for this claim out of the kit's print: the same functions, packed anew
import Derived.Test.YtdmmlldabekahaaQx
import Derived.Test.YtdmmlldabekahaaQimplparentPlace
import Derived.Test.YtdmmlldabekahaaQspecl07Values
namespace Go.Proofs.Ytdmmlldabekahaa.PAll
open Go.RowKit Go.Proofs.YtdmmlldabekahaaW.PrintWords Go.Proofs.YtdmmlldabekahaaW.PrintLast Go.Proofs.YtdmmlldabekahaaW.PrintMore
attribute [local go_sem] Go.Proofs.Ytdmmlldabekahaa.Aux.setCell_drewN Go.Proofs.Ytdmmlldabekahaa.Aux.isSome_setCell max2_int min2_int max_two min_two max_three min_three max_four min_four   -- for this text's walks alone
set_option linter.unusedVariables false
set_option linter.unusedSimpArgs false
/-! ### spec_FlowOfBoundary: function 4 -/
mutual
def spec_FlowOfBoundary.j0 : Nat → Int → Int → List Int → Int → Bool → Option (List Int × Int)
 | 0, _, _, _, _, _ => none
 | k + 1, x0, x1, x2, x8, x46 => if x46 = true then (some (([] : List Int), 2)) else (if x8 = 0 then (spec_FlowOfBoundary.l0 k x0 x1 x2 0 0) else (some (([] : List Int), x8)))
def spec_FlowOfBoundary.l0 : Nat → Int → Int → List Int → Int → Int → Option (List Int × Int)
 | 0, _, _, _, _, _ => none
 | k + 1, x0, x1, x2, x9, x10 => if x10 < (x2.length : Int) then (if 0 ≤ x10 then (spec_FlowOfBoundary.l0 k x0 x1 x2 (wrap64 (x9 + (rd x2 x10))) (wrap64 (x10 + 1))) else (none)) else (if x9 = 0 then ((spec_l07Size.f k x0 x1).bind fun t117 => ((spec_l07Size.f k x0 (wrap64 (x1 - 1))).bind fun t118 => (if 0 ≤ t117 then (if (t117 : Int).toNat ≤ 35184372088832 then (spec_FlowOfBoundary.l1 k x0 x2 t118 (List.replicate (t117 : Int).toNat 0) (wrap64 (t117 - 1))) else (none)) else (none)))) else (some (([] : List Int), 5)))
def spec_FlowOfBoundary.l1 : Nat → Int → List Int → Int → List Int → Int → Option (List Int × Int)
 | 0, _, _, _, _, _ => none
 | k + 1, x0, x2, x12, x13, x14 => if x14 > 0 then (if x14 ≥ x12 then (if 0 ≤ (wrap64 (x14 - x12)) then (if (wrap64 (x14 - x12)) < (x2.length : Int) then (if 0 ≤ x14 then (if x14 < (x13.length : Int) then ((some (x13.set (x14 : Int).toNat (rd x2 (wrap64 (x14 - x12))) : List Int)).bind fun y123 => ((spec_l07Parent.f x0 x14).bind fun t124 => (if 0 ≤ t124 then (if t124 < (x13.length : Int) then (spec_FlowOfBoundary.l1 k x0 x2 x12 (y123.set (t124 : Int).toNat (wrap64 ((rd y123 t124) + (rd y123 x14)))) (wrap64 (x14 - 1))) else (none)) else (none)))) else (none)) else (none)) else (none)) else (none)) else ((spec_l07Parent.f x0 x14).bind fun t128 => (if 0 ≤ t128 then (if t128 < (x13.length : Int) then (if 0 ≤ x14 then (if x14 < (x13.length : Int) then (spec_FlowOfBoundary.l1 k x0 x2 x12 (x13.set (t128 : Int).toNat (wrap64 ((rd x13 t128) + (rd x13 x14)))) (wrap64 (x14 - 1))) else (none)) else (none)) else (none)) else (none)))) else (if 1 ≤ (x13.length : Int) then ((spec_l01Own.f (x13.drop 1)).bind fun t136 => ((spec_l07Values.f k t136).bind fun t139 => (if t139 = true then (some (t136, 0)) else (some (([] : List Int), 3))))) else (none))
end
def spec_FlowOfBoundary.f (k : Nat) (a0 : Int) (a1 : Int) (l2 : List Int) : Option (List Int × Int) := (spec_l07Code.f k a0 a1).bind fun t112 => (if t112 = 1 then (some (([] : List Int), t112)) else (if t112 = 2 then (spec_FlowOfBoundary.j0 k a0 a1 l2 t112 true) else (if a1 < 1 then (spec_FlowOfBoundary.j0 k a0 a1 l2 t112 true) else ((spec_l07Size.f k a0 a1).bind fun t113 => ((spec_l07Size.f k a0 (wrap64 (a1 - 1))).bind fun t114 => (if (l2.length : Int) = (wrap64 (t113 - t114)) then ((spec_l07Values.f k l2).bind fun t115 => (spec_FlowOfBoundary.j0 k a0 a1 l2 t112 (!t115))) else (spec_FlowOfBoundary.j0 k a0 a1 l2 t112 true)))))))
theorem spec_FlowOfBoundary.mono_l : ∀ k, (∀ y0 y1 y2 y3 y4, LeO (spec_FlowOfBoundary.j0 k y0 y1 y2 y3 y4) (spec_FlowOfBoundary.j0 (k + 1) y0 y1 y2 y3 y4)) ∧ (∀ y0 y1 y2 y3 y4, LeO (spec_FlowOfBoundary.l0 k y0 y1 y2 y3 y4) (spec_FlowOfBoundary.l0 (k + 1) y0 y1 y2 y3 y4)) ∧ (∀ y0 y1 y2 y3 y4, LeO (spec_FlowOfBoundary.l1 k y0 y1 y2 y3 y4) (spec_FlowOfBoundary.l1 (k + 1) y0 y1 y2 y3 y4))
 | 0 => ⟨fun _ _ _ _ _ r h => by simp [spec_FlowOfBoundary.j0] at h, fun _ _ _ _ _ r h => by simp [spec_FlowOfBoundary.l0] at h, fun _ _ _ _ _ r h => by simp [spec_FlowOfBoundary.l1] at h⟩
 | k + 1 => by
  obtain ⟨ih0, ih1, ih2⟩ := spec_FlowOfBoundary.mono_l k
  refine ⟨?_, ?_, ?_⟩
  ·
   intro y0 y1 y2 y3 y4
   unfold spec_FlowOfBoundary.j0
   repeat' first
   | (with_reducible exact ih0 _ _ _ _ _)
   | (with_reducible exact ih1 _ _ _ _ _)
   | (with_reducible exact ih2 _ _ _ _ _)
   | (with_reducible exact spec_l07Code.mono _ _ _)
   | (with_reducible exact spec_l07Size.mono _ _ _)
   | (with_reducible exact spec_l07Values.mono _ _)
   | (with_reducible exact LeO.refl _)
   | (with_reducible exact LeO.none _)
   | (with_reducible refine LeO.ite ?_ ?_)
   | (with_reducible refine LeO.bind ?_ (fun _ => ?_))
   | exact ih0 _ _ _ _ _
   | exact ih1 _ _ _ _ _
   | exact ih2 _ _ _ _ _
   | exact spec_l07Code.mono _ _ _
   | exact spec_l07Size.mono _ _ _
   | exact spec_l07Values.mono _ _
   | exact LeO.none _
   | refine LeO.ite ?_ ?_
   | refine LeO.bind ?_ (fun _ => ?_)
  ·
   intro y0 y1 y2 y3 y4
   unfold spec_FlowOfBoundary.l0
   repeat' first
   | (with_reducible exact ih0 _ _ _ _ _)
   | (with_reducible exact ih1 _ _ _ _ _)
   | (with_reducible exact ih2 _ _ _ _ _)
   | (with_reducible exact spec_l07Code.mono _ _ _)
   | (with_reducible exact spec_l07Size.mono _ _ _)
   | (with_reducible exact spec_l07Values.mono _ _)
   | (with_reducible exact LeO.refl _)
   | (with_reducible exact LeO.none _)
   | (with_reducible refine LeO.ite ?_ ?_)
   | (with_reducible refine LeO.bind ?_ (fun _ => ?_))
   | exact ih0 _ _ _ _ _
   | exact ih1 _ _ _ _ _
   | exact ih2 _ _ _ _ _
   | exact spec_l07Code.mono _ _ _
   | exact spec_l07Size.mono _ _ _
   | exact spec_l07Values.mono _ _
   | exact LeO.none _
   | refine LeO.ite ?_ ?_
   | refine LeO.bind ?_ (fun _ => ?_)
  ·
   intro y0 y1 y2 y3 y4
   unfold spec_FlowOfBoundary.l1
   repeat' first
   | (with_reducible exact ih0 _ _ _ _ _)
   | (with_reducible exact ih1 _ _ _ _ _)
   | (with_reducible exact ih2 _ _ _ _ _)
   | (with_reducible exact spec_l07Code.mono _ _ _)
   | (with_reducible exact spec_l07Size.mono _ _ _)
   | (with_reducible exact spec_l07Values.mono _ _)
   | (with_reducible exact LeO.refl _)
   | (with_reducible exact LeO.none _)
   | (with_reducible refine LeO.ite ?_ ?_)
   | (with_reducible refine LeO.bind ?_ (fun _ => ?_))
   | exact ih0 _ _ _ _ _
   | exact ih1 _ _ _ _ _
   | exact ih2 _ _ _ _ _
   | exact spec_l07Code.mono _ _ _
   | exact spec_l07Size.mono _ _ _
   | exact spec_l07Values.mono _ _
   | exact LeO.none _
   | refine LeO.ite ?_ ?_
   | refine LeO.bind ?_ (fun _ => ?_)
theorem spec_FlowOfBoundary.mono : ∀ a0 a1 a2 k, LeO (spec_FlowOfBoundary.f k a0 a1 a2) (spec_FlowOfBoundary.f (k + 1) a0 a1 a2) := by
 intro a0 a1 a2 k
 obtain ⟨ih0, ih1, ih2⟩ := spec_FlowOfBoundary.mono_l k
 unfold spec_FlowOfBoundary.f
 repeat' first
   | (with_reducible exact ih0 _ _ _ _ _)
   | (with_reducible exact ih1 _ _ _ _ _)
   | (with_reducible exact ih2 _ _ _ _ _)
   | (with_reducible exact spec_l07Code.mono _ _ _)
   | (with_reducible exact spec_l07Size.mono _ _ _)
   | (with_reducible exact spec_l07Values.mono _ _)
   | (with_reducible exact LeO.refl _)
   | (with_reducible exact LeO.none _)
   | (with_reducible refine LeO.ite ?_ ?_)
   | (with_reducible refine LeO.bind ?_ (fun _ => ?_))
   | exact ih0 _ _ _ _ _
   | exact ih1 _ _ _ _ _
   | exact ih2 _ _ _ _ _
   | exact spec_l07Code.mono _ _ _
   | exact spec_l07Size.mono _ _ _
   | exact spec_l07Values.mono _ _
   | exact LeO.none _
   | refine LeO.ite ?_ ?_
   | refine LeO.bind ?_ (fun _ => ?_)
def spec_FlowOfBoundary.T23 : Bool × List (List Nat × List Nat) := (true, [([], []), ([], []), ([], []), ([], []), ([2, 3], [2, 3]), ([4], [4]), ([], []), ([], []), ([6, 7], [6, 7]), ([8], [8]), ([5, 9], [5, 9]), ([0, 1, 0, 1, 2, 3, 4, 5, 6, 7, 8, 9, 10], [0, 1]), ([11, 10, 0, 1, 2, 3, 4, 5, 6, 7, 8, 9, 10], [10, 11])])
def spec_FlowOfBoundary.B23 : List Nat := [0, 0, 0, 0, 12, 28, 0, 0, 192, 448, 1020, 2047, 4095]
theorem spec_FlowOfBoundary.tab23 : rtab .any (opsOf Try.f4 23) = spec_FlowOfBoundary.T23 := by kernel_rfl
theorem spec_FlowOfBoundary.bits23 : waitsOk spec_FlowOfBoundary.T23.2 spec_FlowOfBoundary.B23 = true := by kernel_rfl
set_option maxHeartbeats 8000000 in
set_option maxRecDepth 100000 in
theorem spec_FlowOfBoundary.calls (k : Nat) (a0 : Int) (a1 : Int) (A2 : Option Addr) (c2 : Nat) (l2 : List Int) (r1 : List Int) (r2 : Int) (w : World) (hr2 : Kd.C (Kd.int .i64) w A2 l2.length l2) (hc2 : l2.length ≤ c2) (h : spec_FlowOfBoundary.f k a0 a1 l2 = some (r1, r2)) :
  Calls Try.prog 4 #[.int .i64 a0, .int .i64 a1, .slice A2 l2.length c2] w fun e w' => ∃ v0_ : Value, e = .returned (.tuple #[v0_, .int .i64 r2]) ∧ Kd.R (Kd.int .i64) 2 w' w.heap.size (fun _ => True) v0_ r1 ∧ Below w.heap.size w w' := by
 have HR2 := Aside0.mk hr2
 have HC2 := Aside0.mk hc2
 clear hr2 hc2
 have HB := Aside0.mk (Below.refl w.heap.size w)
 have H := h
 unfold spec_FlowOfBoundary.f at H
 clear h
 replace H := bS H
 obtain ⟨t112, A4, H⟩ := H
 try dsimp only at H
 by_cases c5 : t112 = 1
 ·
  rw [if_pos c5] at H
  have c5b0 : (t112 == 1) = true := beq_iff_eq.mpr c5
  have c5b1 : (t112 != 1) = false := bne_eq_false_iff_eq.mpr c5
  clear c5
  simp only [Option.some.injEq, Prod.mk.injEq] at H
  obtain ⟨rfl, rfl⟩ := H
  go_enter Try.func4, Try.ntmps4
  go_wp2_with (first | ((with_reducible refine gate_callee (f := 10) rfl ?_); refine goesL_ (some 19) rfl rfl Try.func10 (by kernel_rfl) rfl #[.int .i64 a0, .int .i64 a1] rfl hA ?_; (with_reducible refine (spec_l07Code.calls k a0 a1 t112 _ A4.out).mono ?_); rintro e w' ⟨rfl, ⟨nd, rfl⟩⟩; refine ⟨_, rfl, ?_⟩))
  go_ret2
  exact ⟨_, by first | rfl | (simp [errW_none, errW_some] <;> rfl) | (simp [*, errW_none, errW_some] <;> rfl), by first | exact Kd.R_nil _ _ _ _ _ | exact Kd.N_nil _ _ _ _ _ | exact Kd.V_nil _ _ _ _ _ | exact Kd.Q_nil _ _ _ _ _ | exact Kd.S_nil _ _ _ _ _, blA⟩
 ·
  rw [if_neg c5] at H
  have c5b0 : (t112 == 1) = false := beq_eq_false_iff_ne.mpr c5
  have c5b1 : (t112 != 1) = true := bne_iff_ne.mpr c5
  have HC6 := Aside0.mk H
  clear H
  go_enter Try.func4, Try.ntmps4
  go_upto_region 4 with (first | ((with_reducible refine gate_callee (f := 10) rfl ?_); refine goesL_ (some 19) rfl rfl Try.func10 (by kernel_rfl) rfl #[.int .i64 a0, .int .i64 a1] rfl hA ?_; (with_reducible refine (spec_l07Code.calls k a0 a1 t112 _ A4.out).mono ?_); rintro e w' ⟨rfl, ⟨nd, rfl⟩⟩; refine ⟨_, rfl, ?_⟩))
  (try simp only [Act.put, List.setIfInBounds_toArray, List.set_cons_zero, List.set_cons_succ])
  go_cut [46] (fun v46 wc => ∃ (kq : Nat) (x46_5 : Bool), v46 = .bool x46_5 ∧ Aside0 (spec_FlowOfBoundary.j0 kq a0 a1 l2 t112 x46_5 = some (r1, r2)) ∧ Aside0 (kq ≤ k) ∧ Aside0 (Below w.heap.size w wc))
  case first =>
   have H := HC6.out
   clear HC6
   by_cases c7 : t112 = 2
   ·
    rw [if_pos c7] at H
    have c7b0 : (t112 == 2) = true := beq_iff_eq.mpr c7
    have c7b1 : (t112 != 2) = false := bne_eq_false_iff_eq.mpr c7
    clear c7
    (first | rw [c7b0] | (simp only [i64_w, i32_w]; rw [c7b0]) | skip)
    have H' := Aside0.mk H
    clear H
    go_wp2
    go_meet
    case rel => exact ⟨_, (true), hB, H', ⟨by first | omega | exact Nat.le_refl _⟩, ⟨blA⟩⟩
   ·
    rw [if_neg c7] at H
    have c7b0 : (t112 == 2) = false := beq_eq_false_iff_ne.mpr c7
    have c7b1 : (t112 != 2) = true := bne_iff_ne.mpr c7
    (first | rw [c7b0] | (simp only [i64_w, i32_w]; rw [c7b0]) | skip)
    by_cases c8 : a1 < 1
    ·
     rw [if_pos c8] at H
     have c8b0 := decide_eq_true c8
     clear c8
     have H' := Aside0.mk H
     clear H
     go_wp2
     go_meet
     case rel => exact ⟨_, (true), hB, H', ⟨by first | omega | exact Nat.le_refl _⟩, ⟨blA⟩⟩
    ·
     rw [if_neg c8] at H
     have c8b0 := decide_eq_false c8
     clear c8
     replace H := bS H
     obtain ⟨t113, A9, H⟩ := H
     try dsimp only at H
     replace H := bS H
     obtain ⟨t114, A10, H⟩ := H
     try dsimp only at H
     by_cases c11 : (l2.length : Int) = (wrap64 (t113 - t114))
     ·
      rw [if_pos c11] at H
      have c11b0 : ((l2.length : Int) == (wrap64 (t113 - t114))) = true := beq_iff_eq.mpr c11
      have c11b1 : ((l2.length : Int) != (wrap64 (t113 - t114))) = false := bne_eq_false_iff_eq.mpr c11
      clear c11
      replace H := bS H
      obtain ⟨t115, A12, H⟩ := H
      try dsimp only at H
      have H' := Aside0.mk H
      clear H
      go_wp2_with (first | (go_at_call 11; (with_reducible refine (spec_l07Size.calls k a0 a1 t113 _ A9.out).mono ?_); rintro e w' ⟨rfl, ⟨nd, rfl⟩⟩) | (go_at_call 11; (with_reducible refine (spec_l07Size.calls k a0 (wrap64 (a1 - 1)) t114 _ A10.out).mono ?_); rintro e w' ⟨rfl, ⟨nd, rfl⟩⟩) | (go_at_call 12; (with_reducible refine (spec_l07Values.calls k _ _ l2 t115 _ ?side1 ?side2 A12.out).mono ?_); (case side1 => repeat (first | exact (Kd.C_below HR2.out blA) | (with_reducible refine Kd.C_alloc ?_ _) | (with_reducible refine Kd.C_drewN ?_ _) | (with_reducible refine Kd.C_drew ?_))); (case side2 => exact HC2.out); rintro e w' ⟨rfl, ⟨nd, rfl⟩⟩))
      go_meet
      case rel => exact ⟨_, (!t115), hB, H', ⟨by first | omega | exact Nat.le_refl _⟩, ⟨blA⟩⟩
     ·
      rw [if_neg c11] at H
      have c11b0 : ((l2.length : Int) == (wrap64 (t113 - t114))) = false := beq_eq_false_iff_ne.mpr c11
      have c11b1 : ((l2.length : Int) != (wrap64 (t113 - t114))) = true := bne_iff_ne.mpr c11
      have H' := Aside0.mk H
      clear H
      go_wp2_with (first | (go_at_call 11; (with_reducible refine (spec_l07Size.calls k a0 a1 t113 _ A9.out).mono ?_); rintro e w' ⟨rfl, ⟨nd, rfl⟩⟩) | (go_at_call 11; (with_reducible refine (spec_l07Size.calls k a0 (wrap64 (a1 - 1)) t114 _ A10.out).mono ?_); rintro e w' ⟨rfl, ⟨nd, rfl⟩⟩))
      go_meet
      case rel => exact ⟨_, (true), hB, H', ⟨by first | omega | exact Nat.le_refl _⟩, ⟨blA⟩⟩
  case rest =>
   clear HC6
   try clear c1
   try clear c2
   try clear p2
   try clear c4
   try clear c5
   try clear c5b0
   try clear c5b1
   try clear p6
   try clear c7
   try clear c7b0
   try clear c7b1
   try clear c8
   try clear c8b0
   try clear c10
   try clear c11
   try clear c11b0
   try clear c11b1
   obtain ⟨kq, x46_5, rfl, HA, HJ5, HB⟩ := hcut
   cases kq with
   | zero => exact absurd HA.out (by simp [spec_FlowOfBoundary.j0])
   | succ kj5 =>
    have H := HA.out
    clear HA
    simp only [spec_FlowOfBoundary.j0] at H
    by_cases c13 : x46_5 = true
    ·
     subst c13
     rw [if_pos rfl] at H
     try dsimp only at H
     simp only [Option.some.injEq, Prod.mk.injEq] at H
     obtain ⟨rfl, rfl⟩ := H
     go_wp2
     go_ret2
     exact ⟨_, by first | rfl | (simp [errW_none, errW_some] <;> rfl) | (simp [*, errW_none, errW_some] <;> rfl), by first | exact Kd.R_nil _ _ _ _ _ | exact Kd.N_nil _ _ _ _ _ | exact Kd.V_nil _ _ _ _ _ | exact Kd.Q_nil _ _ _ _ _ | exact Kd.S_nil _ _ _ _ _, blA⟩
    ·
     replace c13 := Bool.eq_false_iff.mpr c13
     subst c13
     rw [if_neg (show ¬ (false = true) by decide)] at H
     try dsimp only at H
     by_cases c14 : t112 = 0
     ·
      rw [if_pos c14] at H
      have c14b0 : (t112 == 0) = true := beq_iff_eq.mpr c14
      have c14b1 : (t112 != 0) = false := bne_eq_false_iff_eq.mpr c14
      clear c14
      have H' := Aside0.mk H
      clear H
      go_wp2
      go_loopg [9, 10] kj5 (fun kq v9 v10 w' => ∃ (x9_2 : Int) (x10_2 : Int), v9 = .int .i64 x9_2 ∧ v10 = .int .i64 x10_2 ∧ Aside0 (spec_FlowOfBoundary.l0 kq a0 a1 l2 x9_2 x10_2 = some (r1, r2)) ∧ Aside0 (kq ≤ kj5) ∧ Aside0 (Below w.heap.size w w'))
      case atStart => exact ⟨(0), (0), hB, hB, H', ⟨Nat.le_refl _⟩, ⟨blA⟩⟩
      case round =>
       clear H'
       try clear c1
       try clear c2
       try clear p2
       try clear c4
       try clear c5
       try clear c5b0
       try clear c5b1
       try clear p6
       try clear c7
       try clear c7b0
       try clear c7b1
       try clear c8
       try clear c8b0
       try clear c10
       try clear c11
       try clear c11b0
       try clear c11b1
       try clear c13
       try clear c14
       try clear c14b0
       try clear c14b1
       try clear p2
       try clear p6
       obtain ⟨x9_2, x10_2, rfl, rfl, HA, HK2, HB⟩ := hrel
       cases gk with
       | zero => exact absurd HA.out (by simp [spec_FlowOfBoundary.l0])
       | succ k2 =>
        have H := HA.out
        clear HA
        simp only [spec_FlowOfBoundary.l0] at H
        by_cases c15 : x10_2 < (l2.length : Int)
        ·
         rw [if_pos c15] at H
         have c15b0 := decide_eq_true c15
         clear c15
         by_cases c16 : 0 ≤ x10_2
         ·
          rw [if_pos c16] at H
          have c16b0 := decide_eq_true c16
          clear c16
          have H' := Aside0.mk H
          clear H
          have p116 : 0 ≤ (x10_2 : Int) := dA
          have q116 : x10_2 < (l2.length : Int) := dA
          obtain ⟨ad116, e116, hx116_0⟩ := Kd.at_int HR2.out x10_2 p116 q116
          cases e116
          replace hx116_0 := (HB.out.cell (World.block_lt_of_cell? w _ hx116_0)).trans hx116_0
          replace p116 := eq_true p116
          replace q116 := eq_true q116
          go_wp2
          go_roundg k2
          case measure => have := HJ5.out; have := HK2.out; omega
          case rel => exact ⟨(wrap64 (x9_2 + (rd l2 x10_2))), (wrap64 (x10_2 + 1)), hB, hB, H', ⟨by have := HJ5.out; have := HK2.out; omega⟩, ⟨blA⟩⟩
         ·
          rw [if_neg c16] at H
          exact absurd H (by simp)
        ·
         rw [if_neg c15] at H
         have c15b0 := decide_eq_false c15
         clear c15
         by_cases c17 : x9_2 = 0
         ·
          rw [if_pos c17] at H
          have c17b0 : (x9_2 == 0) = true := beq_iff_eq.mpr c17
          have c17b1 : (x9_2 != 0) = false := bne_eq_false_iff_eq.mpr c17
          clear c17
          replace H := bS H
          obtain ⟨t117, A18, H⟩ := H
          try dsimp only at H
          replace H := bS H
          obtain ⟨t118, A19, H⟩ := H
          try dsimp only at H
          by_cases c20 : 0 ≤ t117
          ·
           rw [if_pos c20] at H
           have c20b0 := eq_true c20
           have c20b1 := decide_eq_true c20
           clear c20
           by_cases c21 : (t117 : Int).toNat ≤ 35184372088832
           ·
            rw [if_pos c21] at H
            have c21b0 := eq_true c21
            have c21b1 := decide_eq_true c21
            clear c21
            obtain ⟨y119, hy119⟩ : ∃ y_ : List Int, y_ = (List.replicate (t117 : Int).toNat 0) := ⟨_, rfl⟩
            replace H : (spec_FlowOfBoundary.l1 k2 a0 l2 t118 y119 (wrap64 (t117 - 1))) = some (r1, r2) := by first | (rw [hy119]; with_reducible exact H) | (have H2_ := (Option.bind_some _ _).symm.trans H; rw [hy119]; with_reducible exact H2_) | (have H2_ := (Option.bind_some _ _).symm.trans H; with_reducible exact H2_) | with_reducible exact H | (rw [hy119]; exact H) | exact H
            have Ny119 := Aside0.mk hy119
            clear hy119
            have H' := Aside0.mk H
            clear H
            go_wp2_with (first | ((with_reducible refine gate_callee (f := 11) rfl ?_); refine goesL_ (some 66) rfl rfl Try.func11 (by kernel_rfl) rfl #[.int .i64 a0, .int .i64 a1] rfl hA ?_; (with_reducible refine (spec_l07Size.calls k2 a0 a1 t117 _ A18.out).mono ?_); rintro e w' ⟨rfl, ⟨nd, rfl⟩⟩; refine ⟨_, rfl, ?_⟩) | ((with_reducible refine gate_callee (f := 11) rfl ?_); refine goesL_ (some 70) rfl rfl Try.func11 (by kernel_rfl) rfl #[.int .i64 a0, .int .i64 (wrap64 (a1 - 1))] rfl hA ?_; (with_reducible refine (spec_l07Size.calls k2 a0 (wrap64 (a1 - 1)) t118 _ A19.out).mono ?_); rintro e w' ⟨rfl, ⟨nd, rfl⟩⟩; refine ⟨_, rfl, ?_⟩) | ((with_reducible refine gate_dst (N := 72) rfl ?_); (try (refine gate_guard (by rfl) ?_; dsimp only)); refine Kd.R_make (Kd.int .i64) _ 2 rfl (N := 72) rfl 22 _ _ rfl t117 rfl rfl Try.underlying22 (.int .i64 0) 8 info2 rfl (by decide) (by omega) 0 (ok := fun _ => True) (okp := fun _ => True) rfl (fun _ hk => hk) trivial (dA) (Nat.le_trans (Nat.mul_le_mul_right _ (dA : t117.toNat ≤ 35184372088832)) (by omega)) (Below.refl _ _) (Nat.le_refl _) ?_; intro v120 w22 ho23 hb hg_ hnew_; clear hg_ hnew_; (first | rw [← Ny119.out] at ho23 | (simp only [Int.reduceToNat] at ho23; rw [← Ny119.out] at ho23)); have n0_ := Aside0.mk (Kd.R_lower ho23 (below_size blA)); have n1_ := lB hb; clear HB; have HO121 := n0_; have HB := n1_; clear n0_ n1_; clear hb ho23))
            go_loopg [14] k2 (fun kq v14 w' => ∃ (x13_3 : List Int) (x14_3 : Int), v14 = .int .i64 x14_3 ∧ Aside0 (spec_FlowOfBoundary.l1 kq a0 l2 t118 x13_3 x14_3 = some (r1, r2)) ∧ Aside0 (kq ≤ k2) ∧ Aside0 (Kd.R (Kd.int .i64) 2 w' w.heap.size (fun _ => True) v120 x13_3) ∧ Aside0 (Below w.heap.size w w'))
            case atStart => exact ⟨(y119), (wrap64 (t117 - 1)), hB, H', ⟨Nat.le_refl _⟩, ⟨rA HO121⟩, ⟨blA⟩⟩
            case round =>
             clear H'
             try clear c1
             try clear p1
             try clear q1
             try clear hx1
             try clear c2
             try clear p2
             try clear c4
             try clear c5
             try clear c5b0
             try clear c5b1
             try clear p6
             try clear c7
             try clear c7b0
             try clear c7b1
             try clear c8
             try clear c8b0
             try clear c10
             try clear c11
             try clear c11b0
             try clear c11b1
             try clear p11
             try clear q11
             try clear hx11
             try clear c13
             try clear c14
             try clear c14b0
             try clear c14b1
             try clear c15
             try clear c15b0
             try clear c16
             try clear c16b0
             try clear c17
             try clear c17b0
             try clear c17b1
             try clear c20
             try clear c20b0
             try clear c20b1
             try clear c21
             try clear c21b0
             try clear c21b1
             try clear hx116_0
             try clear p116
             try clear p2
             try clear p6
             try clear q116
             obtain ⟨x13_3, x14_3, rfl, HA, HK3, HO_13, HB⟩ := hrel
             cases gk with
             | zero => exact absurd HA.out (by simp [spec_FlowOfBoundary.l1])
             | succ k3 =>
              have H := HA.out
              clear HA
              simp only [spec_FlowOfBoundary.l1] at H
              by_cases c24 : x14_3 > 0
              ·
               rw [if_pos c24] at H
               have c24b0 : decide (0 < x14_3) = true := decide_eq_true c24
               clear c24
               by_cases c25 : x14_3 ≥ t118
               ·
                rw [if_pos c25] at H
                have c25b0 : decide (t118 ≤ x14_3) = true := decide_eq_true c25
                clear c25
                obtain ⟨ji26, hji26⟩ : ∃ j_ : Int, (wrap64 (x14_3 - t118)) = j_ := ⟨_, rfl⟩
                replace H : (if 0 ≤ (ji26) then (if (ji26) < (l2.length : Int) then (if 0 ≤ x14_3 then (if x14_3 < (x13_3.length : Int) then ((some (x13_3.set (x14_3 : Int).toNat (rd l2 (ji26)) : List Int)).bind fun y123 => ((spec_l07Parent.f a0 x14_3).bind fun t124 => (if 0 ≤ t124 then (if t124 < (x13_3.length : Int) then (spec_FlowOfBoundary.l1 k3 a0 l2 t118 (y123.set (t124 : Int).toNat (wrap64 ((rd y123 t124) + (rd y123 x14_3)))) (wrap64 (x14_3 - 1))) else (none)) else (none)))) else (none)) else (none)) else (none)) else (none)) = some (r1, r2) := by first | (rw [hji26] at H; exact H) | (simp only [hji26] at H ⊢; exact H)
                have hji26w : (IntKind.i64.wrap (x14_3 - t118)) = ji26 := (i64_w _).trans hji26
                by_cases c27 : 0 ≤ (ji26)
                ·
                 rw [if_pos c27] at H
                 have c27b0 := decide_eq_true c27
                 clear c27
                 by_cases c28 : (ji26) < (l2.length : Int)
                 ·
                  rw [if_pos c28] at H
                  have c28b0 := decide_eq_true c28
                  clear c28
                  by_cases c29 : 0 ≤ x14_3
                  ·
                   rw [if_pos c29] at H
                   have c29b0 := decide_eq_true c29
                   clear c29
                   by_cases c30 : x14_3 < (x13_3.length : Int)
                   ·
                    rw [if_pos c30] at H
                    have c30b0 := decide_eq_true c30
                    clear c30
                    obtain ⟨y123, hy123⟩ : ∃ y_ : List Int, y_ = (x13_3.set (x14_3 : Int).toNat (rd l2 (ji26))) := ⟨_, rfl⟩
                    replace H : ((spec_l07Parent.f a0 x14_3).bind fun t124 => (if 0 ≤ t124 then (if t124 < (x13_3.length : Int) then (spec_FlowOfBoundary.l1 k3 a0 l2 t118 (y123.set (t124 : Int).toNat (wrap64 ((rd y123 t124) + (rd y123 x14_3)))) (wrap64 (x14_3 - 1))) else (none)) else (none))) = some (r1, r2) := by first | (rw [hy123]; with_reducible exact H) | (have H2_ := (Option.bind_some _ _).symm.trans H; rw [hy123]; with_reducible exact H2_) | (have H2_ := (Option.bind_some _ _).symm.trans H; with_reducible exact H2_) | with_reducible exact H | (rw [hy123]; exact H) | exact H
                    have Ny123 := Aside0.mk hy123
                    clear hy123
                    replace H := bS H
                    obtain ⟨t124, A32, H⟩ := H
                    try dsimp only at H
                    by_cases c33 : 0 ≤ t124
                    ·
                     rw [if_pos c33] at H
                     have c33b0 := decide_eq_true c33
                     clear c33
                     by_cases c34 : t124 < (x13_3.length : Int)
                     ·
                      rw [if_pos c34] at H
                      have c34b0 := decide_eq_true c34
                      clear c34
                      obtain ⟨y127, hy127⟩ : ∃ y_ : List Int, y_ = (y123.set (t124 : Int).toNat (wrap64 ((rd y123 t124) + (rd y123 x14_3)))) := ⟨_, rfl⟩
                      replace H : (spec_FlowOfBoundary.l1 k3 a0 l2 t118 y127 (wrap64 (x14_3 - 1))) = some (r1, r2) := by first | (rw [hy127]; with_reducible exact H) | (have H2_ := (Option.bind_some _ _).symm.trans H; rw [hy127]; with_reducible exact H2_) | (have H2_ := (Option.bind_some _ _).symm.trans H; with_reducible exact H2_) | with_reducible exact H | (rw [hy127]; exact H) | exact H
                      have Ny127 := Aside0.mk hy127
                      clear hy127
                      have H' := Aside0.mk H
                      clear H
                      have p122 : 0 ≤ ((ji26) : Int) := dA
                      have q122 : (ji26) < (l2.length : Int) := dA
                      obtain ⟨ad122, e122, hx122_0⟩ := Kd.at_int HR2.out (ji26) p122 q122
                      cases e122
                      replace hx122_0 := (HB.out.cell (World.block_lt_of_cell? w _ hx122_0)).trans hx122_0
                      replace p122 := eq_true p122
                      replace q122 := eq_true q122
                      have p31 : 0 ≤ (x14_3 : Int) := dA
                      have q31 : (x14_3 : Int) < ((x13_3.length : Int) : Int) := dA
                      obtain ⟨go31, co31, eo31, gb31, gl31, cl31, HG31⟩ := Kd.R_form HO_13.out (by omega)
                      (first | cases eo31 | (injection eo31 with ea_ en_ ec_; (first | subst ea_ | (injection ea_ with ea_; subst ea_)); subst ec_; clear en_))
                      have GB31 := Aside0.mk gb31
                      have GG31 := Aside0.mk HG31
                      clear gb31 gl31 HG31
                      obtain ⟨hx31_0, hf31_0⟩ := Kd.R_celln 0 HO_13.out (x14_3 : Int) p31 q31
                      replace p31 := eq_true p31
                      replace q31 := eq_true q31
                      have HP36 := Kd.R_putg HO_13.out (x14_3 : Int) (rd l2 (ji26))
                      try go_wp2_with (first | ((with_reducible refine gate_store (t := 2) (p := 90) rfl ?_); refine store_event (t := 2) (p := 90) (v := ?vo_w37) (w1 := (wr.setCell ⟨go31, (x14_3 : Int).toNat, none⟩ (.int .i64 (rd l2 (ji26))))) ?hg ?ho ?hn ?hr ?_; (case ho => rfl); (case hg => rfl); (case hn => rfl); (case hr => first | (go_simp; done) | (go_simp; rfl)); intro w37 hw; have hg : wr.grownBy w37 (some go31) := (by rw [hw]; exact HP36.2); have hp_ : Kd.R (Kd.int .i64) 2 w37 w.heap.size (fun _ => True) (.slice (some ⟨go31, 0, none⟩) x13_3.length co31) y123 := (by rw [hw, Ny123.out]; exact HP36.1); clear HP36; have n0_ := Aside0.mk (hp_); have n1_ := Aside0.mk ((by rw [hw]; exact below_set (HB.out) GB31.out : Below w.heap.size w w37)); clear HO_13; clear HB; have HO_13 := n0_; have HB := n1_; clear n0_ n1_; clear hg hw hp_) | ((with_reducible refine gate_callee (f := 13) rfl ?_); refine goesL_ (some 93) rfl rfl Try.func13 (by kernel_rfl) rfl #[.int .i64 a0, .int .i64 x14_3] rfl hA ?_; (with_reducible refine (spec_l07Parent.calls a0 x14_3 t124 _ A32.out).mono ?_); rintro e w' ⟨rfl, ⟨nd, rfl⟩⟩; refine ⟨_, rfl, ?_⟩; (try (rw [drewN_self w37]; generalize hq_ : World.drewN w37 _ = w37; have n0_ : Aside0 (Kd.R (Kd.int .i64) 2 w37 w.heap.size (fun _ => True) (.slice (some ⟨go31, 0, none⟩) x13_3.length co31) y123) := ⟨by rw [← hq_]; exact (rA HO_13)⟩; have n1_ : Aside0 (Below w.heap.size w w37) := ⟨by rw [← hq_]; exact blA⟩; clear HO_13 HB hq_; have HO_13 := n0_; have HB := n1_; clear n0_ n1_))))
                      have n0_ := Aside0.mk (Kd.R_drew HO_13.out)
                      have n1_ := Aside0.mk (below_drew1 HB.out)
                      clear HO_13
                      clear HB
                      have HO_13 := n0_
                      have HB := n1_
                      clear n0_ n1_
                      have p125 : 0 ≤ (t124 : Int) := dA
                      have q125 : t124 < (y123.length : Int) := (by have h_ : (t124 : Int) < ((x13_3.length : Int) : Int) := dA; first | (have e_ := (Kd.R_reads' HO_13.out).1; omega) | simpa only [Ny123.out, List.length_set] using h_)
                      have ql125 : ((t124 : Int) < ((x13_3.length : Int) : Int)) = True := eq_true (dA)
                      obtain ⟨ad125, e125, hx125_0⟩ := Kd.at_int (Kd.R_reads' HO_13.out).2.2 t124 p125 q125
                      obtain rfl : (⟨go31, 0, none⟩ : Addr) = ad125 := (by injection e125)
                      (first | simp only [add_plain] at hx125_0 | simp only [add_at] at hx125_0 | simp only [Addr.add, Nat.zero_add] at hx125_0 | skip)
                      replace p125 := eq_true p125
                      replace q125 := eq_true q125
                      have p126 : 0 ≤ (x14_3 : Int) := dA
                      have q126 : x14_3 < (y123.length : Int) := (by have h_ : (x14_3 : Int) < ((x13_3.length : Int) : Int) := dA; first | (have e_ := (Kd.R_reads' HO_13.out).1; omega) | simpa only [Ny123.out, List.length_set] using h_)
                      have ql126 : ((x14_3 : Int) < ((x13_3.length : Int) : Int)) = True := eq_true (dA)
                      obtain ⟨ad126, e126, hx126_0⟩ := Kd.at_int (Kd.R_reads' HO_13.out).2.2 x14_3 p126 q126
                      obtain rfl : (⟨go31, 0, none⟩ : Addr) = ad126 := (by injection e126)
                      (first | simp only [add_plain] at hx126_0 | simp only [add_at] at hx126_0 | simp only [Addr.add, Nat.zero_add] at hx126_0 | skip)
                      replace p126 := eq_true p126
                      replace q126 := eq_true q126
                      have p35 : 0 ≤ (t124 : Int) := dA
                      have q35 : (t124 : Int) < ((x13_3.length : Int) : Int) := dA
                      obtain ⟨hx35_0, hf35_0⟩ := Kd.R_celln 0 HO_13.out (t124 : Int) p35 q35
                      replace p35 := eq_true p35
                      replace q35 := eq_true q35
                      have HP39 := Kd.R_putn HO_13.out (t124 : Int) (wrap64 ((rd y123 t124) + (rd y123 x14_3)))
                      rw [← Ny127.out] at HP39
                      have HQ39 := Aside0.mk HP39
                      clear HP39
                      refine start_ (n := 13) (S := fun w' => w'.cell? ⟨go31, (t124).toNat, none⟩ = some (.int .i64 (rd y123 t124)) ∧ w'.cell? ⟨go31, (x14_3).toNat, none⟩ = some (.int .i64 (rd y123 x14_3))) (ds := [12]) #[Z, Z, Z, Z, Z, Z, Z, Z, Z, Z, Z, Z, Z] (by kernel_rfl) rfl rfl ⟨hx125_0, hx126_0⟩ (fun hHeld => ?_); refine with_tabW spec_FlowOfBoundary.tab23 spec_FlowOfBoundary.bits23 (fun HT_ HW_ => ?_)
                      generalize w37.drew = w38 at HO_13 HB HQ39 hf35_0 hx125_0 hx126_0 hx35_0 hHeld ⊢
                      refine pure_ (i := 0) (N := some 94) (v := ?_) (a' := ?_) #[Y, Z, Z, Z, Z, Z, Z, Z, Z, Z, Z, Z, Z] rfl rfl (any_of HT_.out (by kernel_rfl)) (fun _ _ _ h => h) (Or.inl ⟨by rfl, ?_⟩) ?_ ?_
                      rotate_left
                      ·
                       intro w'
                       go_simp
                       with_reducible rfl
                      rotate_left
                      ·
                       simp only [pA]
                       rfl
                      refine pure_ (i := 1) (N := some 95) (v := ?_) (a' := ?_) #[Y, Y, Z, Z, Z, Z, Z, Z, Z, Z, Z, Z, Z] rfl rfl (any_of HT_.out (by kernel_rfl)) (fun _ _ _ h => h) (Or.inl ⟨by rfl, ?_⟩) ?_ ?_
                      rotate_left
                      ·
                       intro w'
                       go_simp
                       with_reducible rfl
                      rotate_left
                      ·
                       simp only [pA]
                       rfl
                      refine pure_ (i := 2) (N := some 96) (v := ?_) (a' := ?_) #[Y, Y, Y, Z, Z, Z, Z, Z, Z, Z, Z, Z, Z] rfl rfl (any_of HT_.out (by kernel_rfl)) (fun _ _ _ h => h) (Or.inl ⟨by rfl, ?_⟩) ?_ ?_
                      rotate_left
                      ·
                       intro w'
                       go_simp
                       with_reducible rfl
                      rotate_left
                      ·
                       simp only [pA]
                       rfl
                      refine pure_ (i := 3) (N := some 97) (v := ?_) (a' := ?_) #[Y, Y, Y, Y, Z, Z, Z, Z, Z, Z, Z, Z, Z] rfl rfl (any_of HT_.out (by kernel_rfl)) (fun _ _ _ h => h) (Or.inl ⟨by rfl, ?_⟩) ?_ ?_
                      rotate_left
                      ·
                       intro w'
                       go_simp
                       with_reducible rfl
                      rotate_left
                      ·
                       simp only [pA]
                       rfl
                      refine pure_ (i := 4) (N := some 98) (v := ?_) (a' := ?_) #[Y, Y, Y, Y, Y, Z, Z, Z, Z, Z, Z, Z, Z] rfl rfl (any_of HT_.out (by kernel_rfl)) (fun _ _ _ h => h) (Or.inl ⟨by rfl, ?_⟩) ?_ ?_
                      rotate_left
                      ·
                       intro w'
                       go_simp
                       with_reducible rfl
                      rotate_left
                      ·
                       simp only [pA]
                       rfl
                      refine pure_ (i := 6) (N := some 100) (v := ?_) (a' := ?_) #[Y, Y, Y, Y, Y, Z, Y, Z, Z, Z, Z, Z, Z] rfl rfl (any_of HT_.out (by kernel_rfl)) (fun _ _ _ h => h) (Or.inl ⟨by rfl, ?_⟩) ?_ ?_
                      rotate_left
                      ·
                       intro w'
                       go_simp
                       with_reducible rfl
                      rotate_left
                      ·
                       simp only [pA]
                       rfl
                      refine pure_ (i := 7) (N := some 101) (v := ?_) (a' := ?_) #[Y, Y, Y, Y, Y, Z, Y, Y, Z, Z, Z, Z, Z] rfl rfl (any_of HT_.out (by kernel_rfl)) (fun _ _ _ h => h) (Or.inl ⟨by rfl, ?_⟩) ?_ ?_
                      rotate_left
                      ·
                       intro w'
                       go_simp
                       with_reducible rfl
                      rotate_left
                      ·
                       simp only [pA]
                       rfl
                      refine pure_ (i := 8) (N := some 102) (v := ?_) (a' := ?_) #[Y, Y, Y, Y, Y, Z, Y, Y, Y, Z, Z, Z, Z] rfl rfl (any_of HT_.out (by kernel_rfl)) (fun _ _ _ h => h) (Or.inl ⟨by rfl, ?_⟩) ?_ ?_
                      rotate_left
                      ·
                       intro w'
                       go_simp
                       with_reducible rfl
                      rotate_left
                      ·
                       simp only [pA]
                       rfl
                      refine take_ (i := 5) (N := some 99) (v := ?_) (a' := ?_) #[Y, Y, Y, Y, Y, Y, Y, Y, Y, Z, Z, Z, Z] rfl rfl (take_ofW HT_.out HW_.out (by kernel_rfl)) (fun _ _ _ h => h) (Or.inl ⟨by rfl, ?_⟩) hHeld ?_ ?_
                      rotate_left
                      ·
                       rintro w' ⟨s0, s1⟩
                       go_simp
                       with_reducible rfl
                      rotate_left
                      ·
                       simp only [pA]
                       rfl
                      refine take_ (i := 9) (N := some 103) (v := ?_) (a' := ?_) #[Y, Y, Y, Y, Y, Y, Y, Y, Y, Y, Z, Z, Z] rfl rfl (take_ofW HT_.out HW_.out (by kernel_rfl)) (fun _ _ _ h => h) (Or.inl ⟨by rfl, ?_⟩) hHeld ?_ ?_
                      rotate_left
                      ·
                       rintro w' ⟨s0, s1⟩
                       go_simp
                       with_reducible rfl
                      rotate_left
                      ·
                       simp only [pA]
                       rfl
                      refine pure_ (i := 10) (N := some 104) (v := ?_) (a' := ?_) #[Y, Y, Y, Y, Y, Y, Y, Y, Y, Y, Y, Z, Z] rfl rfl (any_of HT_.out (by kernel_rfl)) (fun _ _ _ h => h) (Or.inl ⟨by rfl, ?_⟩) ?_ ?_
                      rotate_left
                      ·
                       intro w'
                       go_simp
                       with_reducible rfl
                      rotate_left
                      ·
                       simp only [pA]
                       rfl
                      refine pure_ (i := 11) (N := some 105) (v := ?_) (a' := ?_) #[Y, Y, Y, Y, Y, Y, Y, Y, Y, Y, Y, Y, Z] rfl rfl (any_of HT_.out (by kernel_rfl)) (fun _ _ _ h => h) (Or.inl ⟨by rfl, ?_⟩) ?_ ?_
                      rotate_left
                      ·
                       intro w'
                       go_simp
                       with_reducible rfl
                      rotate_left
                      ·
                       simp only [pA]
                       rfl
                      refine last_ (i := 12) (N := none) #[Y, Y, Y, Y, Y, Y, Y, Y, Y, Y, Y, Y, Y] rfl rfl (one_of HT_.out (by kernel_rfl)) (by decide) (fun K hK => ?_)
                      refine skip_ (w1 := ?_) (by rfl) rfl ?_ ?_
                      rotate_left
                      ·
                       go_simp
                       rfl
                      refine hK.out _ _ ?_
                      clear hK K
                      refine done_ (done_of HT_.out (by kernel_rfl)) ?_
                      try go_wp2
                      go_roundg k3
                      case measure => have := HJ5.out; have := HK2.out; have := HK3.out; omega
                      case rel => exact ⟨(y127), (wrap64 (x14_3 - 1)), hB, H', ⟨by have := HJ5.out; have := HK2.out; have := HK3.out; omega⟩, ⟨by (with_reducible repeat (first | apply Kd.R_alloc | apply Kd.R_drewN | apply Kd.R_drew)); exact HQ39.out⟩, ⟨by repeat (first | (with_reducible first | exact HB.out | apply below_alloc | apply pw_below_drewN | apply below_drew1 | refine below_set ?_ GB31.out) | exact HB.out)⟩⟩
                     ·
                      rw [if_neg c34] at H
                      exact absurd H (by simp)
                    ·
                     rw [if_neg c33] at H
                     exact absurd H (by simp)
                   ·
                    rw [if_neg c30] at H
                    exact absurd H (by simp)
                  ·
                   rw [if_neg c29] at H
                   exact absurd H (by simp)
                 ·
                  rw [if_neg c28] at H
                  exact absurd H (by simp)
                ·
                 rw [if_neg c27] at H
                 exact absurd H (by simp)
               ·
                rw [if_neg c25] at H
                have c25b0 : decide (t118 ≤ x14_3) = false := decide_eq_false c25
                clear c25
                replace H := bS H
                obtain ⟨t128, A40, H⟩ := H
                try dsimp only at H
                by_cases c41 : 0 ≤ t128
                ·
                 rw [if_pos c41] at H
                 have c41b0 := decide_eq_true c41
                 clear c41
                 by_cases c42 : t128 < (x13_3.length : Int)
                 ·
                  rw [if_pos c42] at H
                  have c42b0 := decide_eq_true c42
                  clear c42
                  by_cases c43 : 0 ≤ x14_3
                  ·
                   rw [if_pos c43] at H
                   have c43b0 := decide_eq_true c43
                   clear c43
                   by_cases c44 : x14_3 < (x13_3.length : Int)
                   ·
                    rw [if_pos c44] at H
                    have c44b0 := decide_eq_true c44
                    clear c44
                    obtain ⟨y131, hy131⟩ : ∃ y_ : List Int, y_ = (x13_3.set (t128 : Int).toNat (wrap64 ((rd x13_3 t128) + (rd x13_3 x14_3)))) := ⟨_, rfl⟩
                    replace H : (spec_FlowOfBoundary.l1 k3 a0 l2 t118 y131 (wrap64 (x14_3 - 1))) = some (r1, r2) := by first | (rw [hy131]; with_reducible exact H) | (have H2_ := (Option.bind_some _ _).symm.trans H; rw [hy131]; with_reducible exact H2_) | (have H2_ := (Option.bind_some _ _).symm.trans H; with_reducible exact H2_) | with_reducible exact H | (rw [hy131]; exact H) | exact H
                    have Ny131 := Aside0.mk hy131
                    clear hy131
                    have H' := Aside0.mk H
                    clear H
                    try go_wp2_with (first | ((with_reducible refine gate_callee (f := 13) rfl ?_); refine goesL_ (some 93) rfl rfl Try.func13 (by kernel_rfl) rfl #[.int .i64 a0, .int .i64 x14_3] rfl hA ?_; (with_reducible refine (spec_l07Parent.calls a0 x14_3 t128 _ A40.out).mono ?_); rintro e w' ⟨rfl, ⟨nd, rfl⟩⟩; refine ⟨_, rfl, ?_⟩; (try (rw [drewN_self wr]; generalize hq_ : World.drewN wr _ = wr; have n0_ : Aside0 (Kd.R (Kd.int .i64) 2 wr w.heap.size (fun _ => True) v120 x13_3) := ⟨by rw [← hq_]; exact (rA HO_13)⟩; have n1_ : Aside0 (Below w.heap.size w wr) := ⟨by rw [← hq_]; exact blA⟩; clear HO_13 HB hq_; have HO_13 := n0_; have HB := n1_; clear n0_ n1_))))
                    have n0_ := Aside0.mk (Kd.R_drew HO_13.out)
                    have n1_ := Aside0.mk (below_drew1 HB.out)
                    clear HO_13
                    clear HB
                    have HO_13 := n0_
                    have HB := n1_
                    clear n0_ n1_
                    obtain ⟨Ao47, co47, eo47⟩ := Kd.R_slice HO_13.out
                    (first | subst eo47 | (injection eo47 with f1_ f2_ f3_; have f4_ := f1_.symm; have f5_ := f3_.symm; clear f1_ f2_ f3_; subst f4_; subst f5_))
                    have p129 : 0 ≤ (t128 : Int) := dA
                    have q129 : t128 < (x13_3.length : Int) := dA
                    obtain ⟨ad129, e129, hx129_0⟩ := Kd.at_int (Kd.R_reads' HO_13.out).2.2 t128 p129 q129
                    cases e129
                    replace p129 := eq_true p129
                    replace q129 := eq_true q129
                    have p130 : 0 ≤ (x14_3 : Int) := dA
                    have q130 : x14_3 < (x13_3.length : Int) := dA
                    obtain ⟨ad130, e130, hx130_0⟩ := Kd.at_int (Kd.R_reads' HO_13.out).2.2 x14_3 p130 q130
                    obtain rfl : ad129 = ad130 := (by injection e130)
                    replace p130 := eq_true p130
                    replace q130 := eq_true q130
                    have p45 : 0 ≤ (t128 : Int) := dA
                    have q45 : (t128 : Int) < ((x13_3.length : Int) : Int) := dA
                    obtain ⟨go45, co45, eo45, gb45, gl45, cl45, HG45⟩ := Kd.R_form HO_13.out (by omega)
                    (first | cases eo45 | (injection eo45 with ea_ en_ ec_; (first | subst ea_ | (injection ea_ with ea_; subst ea_)); subst ec_; clear en_))
                    have GB45 := Aside0.mk gb45
                    have GG45 := Aside0.mk HG45
                    clear gb45 gl45 HG45
                    (first | simp only [add_plain] at hx129_0 | skip)
                    (first | simp only [add_plain] at hx130_0 | skip)
                    obtain ⟨hx45_0, hf45_0⟩ := Kd.R_celln 0 HO_13.out (t128 : Int) p45 q45
                    replace p45 := eq_true p45
                    replace q45 := eq_true q45
                    have HP48 := Kd.R_putn HO_13.out (t128 : Int) (wrap64 ((rd x13_3 t128) + (rd x13_3 x14_3)))
                    rw [← Ny131.out] at HP48
                    have HQ48 := Aside0.mk HP48
                    clear HP48
                    refine start_ (n := 13) (S := fun w' => w'.cell? ⟨go45, (t128).toNat, none⟩ = some (.int .i64 (rd x13_3 t128)) ∧ w'.cell? ⟨go45, (x14_3).toNat, none⟩ = some (.int .i64 (rd x13_3 x14_3))) (ds := [12]) #[Z, Z, Z, Z, Z, Z, Z, Z, Z, Z, Z, Z, Z] (by kernel_rfl) rfl rfl ⟨hx129_0, hx130_0⟩ (fun hHeld => ?_); refine with_tabW spec_FlowOfBoundary.tab23 spec_FlowOfBoundary.bits23 (fun HT_ HW_ => ?_)
                    generalize wr.drew = w46 at HO_13 HB GG45 HQ48 hf45_0 hx129_0 hx130_0 hx45_0 hHeld ⊢
                    refine pure_ (i := 0) (N := some 94) (v := ?_) (a' := ?_) #[Y, Z, Z, Z, Z, Z, Z, Z, Z, Z, Z, Z, Z] rfl rfl (any_of HT_.out (by kernel_rfl)) (fun _ _ _ h => h) (Or.inl ⟨by rfl, ?_⟩) ?_ ?_
                    rotate_left
                    ·
                     intro w'
                     go_simp
                     with_reducible rfl
                    rotate_left
                    ·
                     simp only [pA]
                     rfl
                    refine pure_ (i := 1) (N := some 95) (v := ?_) (a' := ?_) #[Y, Y, Z, Z, Z, Z, Z, Z, Z, Z, Z, Z, Z] rfl rfl (any_of HT_.out (by kernel_rfl)) (fun _ _ _ h => h) (Or.inl ⟨by rfl, ?_⟩) ?_ ?_
                    rotate_left
                    ·
                     intro w'
                     go_simp
                     with_reducible rfl
                    rotate_left
                    ·
                     simp only [pA]
                     rfl
                    refine pure_ (i := 2) (N := some 96) (v := ?_) (a' := ?_) #[Y, Y, Y, Z, Z, Z, Z, Z, Z, Z, Z, Z, Z] rfl rfl (any_of HT_.out (by kernel_rfl)) (fun _ _ _ h => h) (Or.inl ⟨by rfl, ?_⟩) ?_ ?_
                    rotate_left
                    ·
                     intro w'
                     go_simp
                     with_reducible rfl
                    rotate_left
                    ·
                     simp only [pA]
                     rfl
                    refine pure_ (i := 3) (N := some 97) (v := ?_) (a' := ?_) #[Y, Y, Y, Y, Z, Z, Z, Z, Z, Z, Z, Z, Z] rfl rfl (any_of HT_.out (by kernel_rfl)) (fun _ _ _ h => h) (Or.inl ⟨by rfl, ?_⟩) ?_ ?_
                    rotate_left
                    ·
                     intro w'
                     go_simp
                     with_reducible rfl
                    rotate_left
                    ·
                     simp only [pA]
                     rfl
                    refine pure_ (i := 4) (N := some 98) (v := ?_) (a' := ?_) #[Y, Y, Y, Y, Y, Z, Z, Z, Z, Z, Z, Z, Z] rfl rfl (any_of HT_.out (by kernel_rfl)) (fun _ _ _ h => h) (Or.inl ⟨by rfl, ?_⟩) ?_ ?_
                    rotate_left
                    ·
                     intro w'
                     go_simp
                     with_reducible rfl
                    rotate_left
                    ·
                     simp only [pA]
                     rfl
                    refine pure_ (i := 6) (N := some 100) (v := ?_) (a' := ?_) #[Y, Y, Y, Y, Y, Z, Y, Z, Z, Z, Z, Z, Z] rfl rfl (any_of HT_.out (by kernel_rfl)) (fun _ _ _ h => h) (Or.inl ⟨by rfl, ?_⟩) ?_ ?_
                    rotate_left
                    ·
                     intro w'
                     go_simp
                     with_reducible rfl
                    rotate_left
                    ·
                     simp only [pA]
                     rfl
                    refine pure_ (i := 7) (N := some 101) (v := ?_) (a' := ?_) #[Y, Y, Y, Y, Y, Z, Y, Y, Z, Z, Z, Z, Z] rfl rfl (any_of HT_.out (by kernel_rfl)) (fun _ _ _ h => h) (Or.inl ⟨by rfl, ?_⟩) ?_ ?_
                    rotate_left
                    ·
                     intro w'
                     go_simp
                     with_reducible rfl
                    rotate_left
                    ·
                     simp only [pA]
                     rfl
                    refine pure_ (i := 8) (N := some 102) (v := ?_) (a' := ?_) #[Y, Y, Y, Y, Y, Z, Y, Y, Y, Z, Z, Z, Z] rfl rfl (any_of HT_.out (by kernel_rfl)) (fun _ _ _ h => h) (Or.inl ⟨by rfl, ?_⟩) ?_ ?_
                    rotate_left
                    ·
                     intro w'
                     go_simp
                     with_reducible rfl
                    rotate_left
                    ·
                     simp only [pA]
                     rfl
                    refine take_ (i := 5) (N := some 99) (v := ?_) (a' := ?_) #[Y, Y, Y, Y, Y, Y, Y, Y, Y, Z, Z, Z, Z] rfl rfl (take_ofW HT_.out HW_.out (by kernel_rfl)) (fun _ _ _ h => h) (Or.inl ⟨by rfl, ?_⟩) hHeld ?_ ?_
                    rotate_left
                    ·
                     rintro w' ⟨s0, s1⟩
                     go_simp
                     with_reducible rfl
                    rotate_left
                    ·
                     simp only [pA]
                     rfl
                    refine take_ (i := 9) (N := some 103) (v := ?_) (a' := ?_) #[Y, Y, Y, Y, Y, Y, Y, Y, Y, Y, Z, Z, Z] rfl rfl (take_ofW HT_.out HW_.out (by kernel_rfl)) (fun _ _ _ h => h) (Or.inl ⟨by rfl, ?_⟩) hHeld ?_ ?_
                    rotate_left
                    ·
                     rintro w' ⟨s0, s1⟩
                     go_simp
                     with_reducible rfl
                    rotate_left
                    ·
                     simp only [pA]
                     rfl
                    refine pure_ (i := 10) (N := some 104) (v := ?_) (a' := ?_) #[Y, Y, Y, Y, Y, Y, Y, Y, Y, Y, Y, Z, Z] rfl rfl (any_of HT_.out (by kernel_rfl)) (fun _ _ _ h => h) (Or.inl ⟨by rfl, ?_⟩) ?_ ?_
                    rotate_left
                    ·
                     intro w'
                     go_simp
                     with_reducible rfl
                    rotate_left
                    ·
                     simp only [pA]
                     rfl
                    refine pure_ (i := 11) (N := some 105) (v := ?_) (a' := ?_) #[Y, Y, Y, Y, Y, Y, Y, Y, Y, Y, Y, Y, Z] rfl rfl (any_of HT_.out (by kernel_rfl)) (fun _ _ _ h => h) (Or.inl ⟨by rfl, ?_⟩) ?_ ?_
                    rotate_left
                    ·
                     intro w'
                     go_simp
                     with_reducible rfl
                    rotate_left
                    ·
                     simp only [pA]
                     rfl
                    refine last_ (i := 12) (N := none) #[Y, Y, Y, Y, Y, Y, Y, Y, Y, Y, Y, Y, Y] rfl rfl (one_of HT_.out (by kernel_rfl)) (by decide) (fun K hK => ?_)
                    refine skip_ (w1 := ?_) (by rfl) rfl ?_ ?_
                    rotate_left
                    ·
                     go_simp
                     rfl
                    refine hK.out _ _ ?_
                    clear hK K
                    refine done_ (done_of HT_.out (by kernel_rfl)) ?_
                    try go_wp2
                    go_roundg k3
                    case measure => have := HJ5.out; have := HK2.out; have := HK3.out; omega
                    case rel => exact ⟨(y131), (wrap64 (x14_3 - 1)), hB, H', ⟨by have := HJ5.out; have := HK2.out; have := HK3.out; omega⟩, ⟨by (with_reducible repeat (first | apply Kd.R_alloc | apply Kd.R_drewN | apply Kd.R_drew)); exact HQ48.out⟩, ⟨by repeat (first | (with_reducible first | exact HB.out | apply below_alloc | apply pw_below_drewN | apply below_drew1 | refine below_set ?_ GB45.out) | exact HB.out)⟩⟩
                   ·
                    rw [if_neg c44] at H
                    exact absurd H (by simp)
                  ·
                   rw [if_neg c43] at H
                   exact absurd H (by simp)
                 ·
                  rw [if_neg c42] at H
                  exact absurd H (by simp)
                ·
                 rw [if_neg c41] at H
                 exact absurd H (by simp)
              ·
               rw [if_neg c24] at H
               have c24b0 : decide (0 < x14_3) = false := decide_eq_false c24
               clear c24
               by_cases c49 : 1 ≤ (x13_3.length : Int)
               ·
                rw [if_pos c49] at H
                have c49b0 := eq_true c49
                have c49b1 := decide_eq_true c49
                clear c49
                obtain ⟨y132, hy132⟩ : ∃ y_ : List Int, y_ = (x13_3.drop 1) := ⟨_, rfl⟩
                replace H : ((spec_l01Own.f y132).bind fun t136 => ((spec_l07Values.f k3 t136).bind fun t139 => (if t139 = true then (some (t136, 0)) else (some (([] : List Int), 3))))) = some (r1, r2) := by first | (rw [hy132]; with_reducible exact H) | (have H2_ := (Option.bind_some _ _).symm.trans H; rw [hy132]; with_reducible exact H2_) | (have H2_ := (Option.bind_some _ _).symm.trans H; with_reducible exact H2_) | with_reducible exact H | (rw [hy132]; exact H) | exact H
                have Ny132 := Aside0.mk hy132
                clear hy132
                replace H := bS H
                obtain ⟨t136, A50, H⟩ := H
                try dsimp only at H
                replace H := bS H
                obtain ⟨t139, A51, H⟩ := H
                try dsimp only at H
                by_cases c52 : t139 = true
                ·
                 subst c52
                 rw [if_pos rfl] at H
                 try dsimp only at H
                 simp only [Option.some.injEq, Prod.mk.injEq] at H
                 obtain ⟨rfl, rfl⟩ := H
                 obtain ⟨Ao54, co54, eo54⟩ := Kd.R_slice HO_13.out
                 subst eo54
                 have q53 : (1 : Int) ≤ ((x13_3.length : Int) : Int) := dA
                 obtain ⟨i053, hi053, _, hsz53, _⟩ := info_parts info2
                 have hroom53 : x13_3.length ≤ co54 := (Kd.R_reads' HO_13.out).2.1
                 have hC53 : Kd.C (Kd.int .i64) _ Ao54 x13_3.length x13_3 := (Kd.R_reads' HO_13.out).2.2
                 have hcut53 := cut_from (P := Try.prog) 22 2 .i64 Try.underlying22 hi053 1 hsz53 Ao54 x13_3.length co54 1 (by omega) q53
                 have hr53 := Kd.C_drop (m := (1 : Int).toNat) (c := co54) hC53 (by omega) hroom53
                 obtain ⟨A53, hA53⟩ : ∃ A1, A1 = (if co54 = (1 : Int).toNat then Ao54 else (Ao54 : Option Addr).map (·.add ((1 : Int).toNat * 1))) := ⟨_, rfl⟩
                 obtain ⟨c53, hc53⟩ : ∃ c1, c1 = co54 - (1 : Int).toNat := ⟨_, rfl⟩
                 have hy53 : y132.length = x13_3.length - (1 : Int).toNat := (by rw [Ny132.out, List.length_drop] <;> omega)
                 rw [show (x13_3).drop (1 : Int).toNat = y132 from Ny132.out.symm] at hr53
                 replace hr53 : Kd.C (Kd.int .i64) _ A53 y132.length y132 := (by rw [hA53]; exact hr53)
                 rw [← hy53, ← hA53, ← hc53] at hcut53
                 have HR135 := Aside0.mk hr53
                 have HC135 := Aside0.mk (show y132.length ≤ c53 from by rw [hy53, hc53]; exact Nat.sub_le_sub_right hroom53 _)
                 clear hr53 hC53 hroom53 hi053 hsz53 hc53
                 have KY53 := Aside0.mk hy53
                 have KA53 := Aside0.mk hA53
                 clear hy53 hA53
                 have KL53 := Aside0.mk (show 1 ≤ x13_3.length from by omega)
                 replace q53 := eq_true q53
                 go_wp2_with (first | ((with_reducible refine gate_callee (f := 14) rfl ?_); refine goesL_ (some 108) rfl rfl Try.func14 (by kernel_rfl) rfl #[.slice A53 y132.length c53] rfl hA ?_; (with_reducible refine (spec_l01Own.calls _ _ y132 t136 _ ?side1 ?side2 A50.out).mono ?_); (case side1 => repeat (first | exact (by repeat (first | (with_reducible exact HR135.out) | (with_reducible refine Kd.C_alloc ?_ _) | (with_reducible refine Kd.C_drewN ?_ _) | (with_reducible refine Kd.C_drew ?_) | exact HR135.out)) | (with_reducible refine Kd.C_alloc ?_ _) | (with_reducible refine Kd.C_drewN ?_ _) | (with_reducible refine Kd.C_drew ?_))); (case side2 => exact HC135.out); rintro e w55 ⟨v137, rfl, ho0, hb⟩; refine ⟨_, rfl, ?_⟩; have n0_ := Aside0.mk (Kd.R_elder' (rA HO_13) (Kd.R_base ho0) hb); have n1_ := Aside0.mk (Kd.R_lower (Kd.R_new' ho0 (Kd.R_lt (rA HO_13))) (below_size blA)); have n2_ := Aside0.mk (Kd.C_below (by repeat (first | (with_reducible exact HR135.out) | (with_reducible refine Kd.C_alloc ?_ _) | (with_reducible refine Kd.C_drewN ?_ _) | (with_reducible refine Kd.C_drew ?_) | exact HR135.out)) hb); have n3_ := lB hb; clear HO_13; clear HR135; clear HB; have HO_13 := n0_; have HO138 := n1_; have HR135 := n2_; have HB := n3_; clear n0_ n1_ n2_ n3_; (try clear hb); (try clear hb2); (try clear hk); (try clear hi); (try clear ho0); obtain ⟨Ao56, co56, eo56⟩ := Kd.R_slice HO138.out; subst eo56) | ((with_reducible refine gate_callee (f := 12) rfl ?_); refine goesL_ (some 110) rfl rfl Try.func12 (by kernel_rfl) rfl #[.slice Ao56 t136.length co56] rfl hA ?_; (with_reducible refine (spec_l07Values.calls k3 _ _ t136 true _ ?side1 ?side2 A51.out).mono ?_); (case side1 => repeat (first | exact (Kd.R_reads' HO138.out).2.2 | (with_reducible refine Kd.C_alloc ?_ _) | (with_reducible refine Kd.C_drewN ?_ _) | (with_reducible refine Kd.C_drew ?_))); (case side2 => exact (Kd.R_reads' HO138.out).2.1); rintro e w' ⟨rfl, ⟨nd, rfl⟩⟩; refine ⟨_, rfl, ?_⟩))
                 go_ret2
                 exact ⟨_, by first | rfl | (simp [errW_none, errW_some] <;> rfl) | (simp [*, errW_none, errW_some] <;> rfl), by (with_reducible repeat (first | apply Kd.R_alloc | apply Kd.R_drewN | apply Kd.R_drew)); exact Kd.R_mono HO138.out (fun _ hk => trivial), blA⟩
                ·
                 replace c52 := Bool.eq_false_iff.mpr c52
                 subst c52
                 rw [if_neg (show ¬ (false = true) by decide)] at H
                 try dsimp only at H
                 simp only [Option.some.injEq, Prod.mk.injEq] at H
                 obtain ⟨rfl, rfl⟩ := H
                 obtain ⟨Ao58, co58, eo58⟩ := Kd.R_slice HO_13.out
                 subst eo58
                 have q57 : (1 : Int) ≤ ((x13_3.length : Int) : Int) := dA
                 obtain ⟨i057, hi057, _, hsz57, _⟩ := info_parts info2
                 have hroom57 : x13_3.length ≤ co58 := (Kd.R_reads' HO_13.out).2.1
                 have hC57 : Kd.C (Kd.int .i64) _ Ao58 x13_3.length x13_3 := (Kd.R_reads' HO_13.out).2.2
                 have hcut57 := cut_from (P := Try.prog) 22 2 .i64 Try.underlying22 hi057 1 hsz57 Ao58 x13_3.length co58 1 (by omega) q57
                 have hr57 := Kd.C_drop (m := (1 : Int).toNat) (c := co58) hC57 (by omega) hroom57
                 obtain ⟨A57, hA57⟩ : ∃ A1, A1 = (if co58 = (1 : Int).toNat then Ao58 else (Ao58 : Option Addr).map (·.add ((1 : Int).toNat * 1))) := ⟨_, rfl⟩
                 obtain ⟨c57, hc57⟩ : ∃ c1, c1 = co58 - (1 : Int).toNat := ⟨_, rfl⟩
                 have hy57 : y132.length = x13_3.length - (1 : Int).toNat := (by rw [Ny132.out, List.length_drop] <;> omega)
                 rw [show (x13_3).drop (1 : Int).toNat = y132 from Ny132.out.symm] at hr57
                 replace hr57 : Kd.C (Kd.int .i64) _ A57 y132.length y132 := (by rw [hA57]; exact hr57)
                 rw [← hy57, ← hA57, ← hc57] at hcut57
                 have HR135 := Aside0.mk hr57
                 have HC135 := Aside0.mk (show y132.length ≤ c57 from by rw [hy57, hc57]; exact Nat.sub_le_sub_right hroom57 _)
                 clear hr57 hC57 hroom57 hi057 hsz57 hc57
                 have KY57 := Aside0.mk hy57
                 have KA57 := Aside0.mk hA57
                 clear hy57 hA57
                 have KL57 := Aside0.mk (show 1 ≤ x13_3.length from by omega)
                 replace q57 := eq_true q57
                 go_wp2_with (first | ((with_reducible refine gate_callee (f := 14) rfl ?_); refine goesL_ (some 108) rfl rfl Try.func14 (by kernel_rfl) rfl #[.slice A57 y132.length c57] rfl hA ?_; (with_reducible refine (spec_l01Own.calls _ _ y132 t136 _ ?side1 ?side2 A50.out).mono ?_); (case side1 => repeat (first | exact (by repeat (first | (with_reducible exact HR135.out) | (with_reducible refine Kd.C_alloc ?_ _) | (with_reducible refine Kd.C_drewN ?_ _) | (with_reducible refine Kd.C_drew ?_) | exact HR135.out)) | (with_reducible refine Kd.C_alloc ?_ _) | (with_reducible refine Kd.C_drewN ?_ _) | (with_reducible refine Kd.C_drew ?_))); (case side2 => exact HC135.out); rintro e w59 ⟨v137, rfl, ho0, hb⟩; refine ⟨_, rfl, ?_⟩; have n0_ := Aside0.mk (Kd.R_elder' (rA HO_13) (Kd.R_base ho0) hb); have n1_ := Aside0.mk (Kd.R_lower (Kd.R_new' ho0 (Kd.R_lt (rA HO_13))) (below_size blA)); have n2_ := Aside0.mk (Kd.C_below (by repeat (first | (with_reducible exact HR135.out) | (with_reducible refine Kd.C_alloc ?_ _) | (with_reducible refine Kd.C_drewN ?_ _) | (with_reducible refine Kd.C_drew ?_) | exact HR135.out)) hb); have n3_ := lB hb; clear HO_13; clear HR135; clear HB; have HO_13 := n0_; have HO138 := n1_; have HR135 := n2_; have HB := n3_; clear n0_ n1_ n2_ n3_; (try clear hb); (try clear hb2); (try clear hk); (try clear hi); (try clear ho0); obtain ⟨Ao60, co60, eo60⟩ := Kd.R_slice HO138.out; subst eo60) | ((with_reducible refine gate_callee (f := 12) rfl ?_); refine goesL_ (some 110) rfl rfl Try.func12 (by kernel_rfl) rfl #[.slice Ao60 t136.length co60] rfl hA ?_; (with_reducible refine (spec_l07Values.calls k3 _ _ t136 false _ ?side1 ?side2 A51.out).mono ?_); (case side1 => repeat (first | exact (Kd.R_reads' HO138.out).2.2 | (with_reducible refine Kd.C_alloc ?_ _) | (with_reducible refine Kd.C_drewN ?_ _) | (with_reducible refine Kd.C_drew ?_))); (case side2 => exact (Kd.R_reads' HO138.out).2.1); rintro e w' ⟨rfl, ⟨nd, rfl⟩⟩; refine ⟨_, rfl, ?_⟩))
                 go_ret2
                 exact ⟨_, by first | rfl | (simp [errW_none, errW_some] <;> rfl) | (simp [*, errW_none, errW_some] <;> rfl), by first | exact Kd.R_nil _ _ _ _ _ | exact Kd.N_nil _ _ _ _ _ | exact Kd.V_nil _ _ _ _ _ | exact Kd.Q_nil _ _ _ _ _ | exact Kd.S_nil _ _ _ _ _, blA⟩
               ·
                rw [if_neg c49] at H
                exact absurd H (by simp)
           ·
            rw [if_neg c21] at H
            exact absurd H (by simp)
          ·
           rw [if_neg c20] at H
           exact absurd H (by simp)
         ·
          rw [if_neg c17] at H
          have c17b0 : (x9_2 == 0) = false := beq_eq_false_iff_ne.mpr c17
          have c17b1 : (x9_2 != 0) = true := bne_iff_ne.mpr c17
          simp only [Option.some.injEq, Prod.mk.injEq] at H
          obtain ⟨rfl, rfl⟩ := H
          go_wp2
          go_ret2
          exact ⟨_, by first | rfl | (simp [errW_none, errW_some] <;> rfl) | (simp [*, errW_none, errW_some] <;> rfl), by first | exact Kd.R_nil _ _ _ _ _ | exact Kd.N_nil _ _ _ _ _ | exact Kd.V_nil _ _ _ _ _ | exact Kd.Q_nil _ _ _ _ _ | exact Kd.S_nil _ _ _ _ _, blA⟩
     ·
      rw [if_neg c14] at H
      have c14b0 : (t112 == 0) = false := beq_eq_false_iff_ne.mpr c14
      have c14b1 : (t112 != 0) = true := bne_iff_ne.mpr c14
      simp only [Option.some.injEq, Prod.mk.injEq] at H
      obtain ⟨rfl, rfl⟩ := H
      go_wp2
      go_ret2
      exact ⟨_, by first | rfl | (simp [errW_none, errW_some] <;> rfl) | (simp [*, errW_none, errW_some] <;> rfl), by first | exact Kd.R_nil _ _ _ _ _ | exact Kd.N_nil _ _ _ _ _ | exact Kd.V_nil _ _ _ _ _ | exact Kd.Q_nil _ _ _ _ _ | exact Kd.S_nil _ _ _ _ _, blA⟩
end Go.Proofs.Ytdmmlldabekahaa.PAll
