-- turned for this claim out of the kit's print: the same functions, packed anew
import Derived.Test.YtfkglijnbgijbaaQx
import Derived.Test.YtfkglijnbgijbaaQspecl01From
import Derived.Test.YtfkglijnbgijbaaQspecl01Pick
import Derived.Test.YtfkglijnbgijbaaQspecl07Code
import Derived.Test.YtfkglijnbgijbaaQspecl07Places
namespace Go.Proofs.Ytfkglijnbgijbaa.PAll
open Go.RowKit Go.Proofs.YtfkglijnbgijbaaW.PrintWords Go.Proofs.YtfkglijnbgijbaaW.PrintLast Go.Proofs.YtfkglijnbgijbaaW.PrintMore
attribute [local go_sem] Go.Proofs.Ytfkglijnbgijbaa.Aux.setCell_drewN Go.Proofs.Ytfkglijnbgijbaa.Aux.isSome_setCell Go.Proofs.Ytfkglijnbgijbaa.Aux.max_eight max2_int min2_int max_two min_two max_three min_three max_four min_four   -- for this text's walks alone
set_option linter.unusedVariables false
set_option linter.unusedSimpArgs false
/-! ### spec_FlowOfBoundary: function 32 -/
mutual
def spec_FlowOfBoundary.j0 : Nat → Int → Int → List Int → Int → Bool → Option (List Int × Int)
  | 0, _, _, _, _, _ => none
  | k + 1, x0, x1, x2, x8, x46 => if x46 = true then (some (([] : List Int), 2)) else (if x8 = 0 then (spec_FlowOfBoundary.l0 k x0 x1 x2 0 0) else (some (([] : List Int), x8)))
def spec_FlowOfBoundary.l0 : Nat → Int → Int → List Int → Int → Int → Option (List Int × Int)
  | 0, _, _, _, _, _ => none
  | k + 1, x0, x1, x2, x9, x10 => if x10 < (x2.length : Int) then (if 0 ≤ x10 then (spec_FlowOfBoundary.l0 k x0 x1 x2 (wrap64 (x9 + (rd x2 x10))) (wrap64 (x10 + 1))) else (none)) else (if x9 = 0 then ((spec_l07Size.f k x0 x1).bind fun t821 => ((spec_l07Size.f k x0 (wrap64 (x1 - 1))).bind fun t822 => (if 0 ≤ t821 then (if (t821 : Int).toNat ≤ 35184372088832 then (spec_FlowOfBoundary.l1 k x0 x2 t822 (List.replicate (t821 : Int).toNat 0) (wrap64 (t821 - 1))) else (none)) else (none)))) else (some (([] : List Int), 5)))
def spec_FlowOfBoundary.l1 : Nat → Int → List Int → Int → List Int → Int → Option (List Int × Int)
  | 0, _, _, _, _, _ => none
  | k + 1, x0, x2, x12, x13, x14 => if x14 > 0 then (if x14 ≥ x12 then (if 0 ≤ (wrap64 (x14 - x12)) then (if (wrap64 (x14 - x12)) < (x2.length : Int) then (if 0 ≤ x14 then (if x14 < (x13.length : Int) then ((some (x13.set (x14 : Int).toNat (rd x2 (wrap64 (x14 - x12))) : List Int)).bind fun y827 => ((spec_l07Parent.f x0 x14).bind fun t828 => (if 0 ≤ t828 then (if t828 < (x13.length : Int) then (spec_FlowOfBoundary.l1 k x0 x2 x12 (y827.set (t828 : Int).toNat (wrap64 ((rd y827 t828) + (rd y827 x14)))) (wrap64 (x14 - 1))) else (none)) else (none)))) else (none)) else (none)) else (none)) else (none)) else ((spec_l07Parent.f x0 x14).bind fun t832 => (if 0 ≤ t832 then (if t832 < (x13.length : Int) then (if 0 ≤ x14 then (if x14 < (x13.length : Int) then (spec_FlowOfBoundary.l1 k x0 x2 x12 (x13.set (t832 : Int).toNat (wrap64 ((rd x13 t832) + (rd x13 x14)))) (wrap64 (x14 - 1))) else (none)) else (none)) else (none)) else (none)))) else (if 1 ≤ (x13.length : Int) then ((spec_l01Own.f (x13.drop 1)).bind fun t840 => ((spec_l07Values.f k t840).bind fun t843 => (if t843 = true then (some (t840, 0)) else (some (([] : List Int), 3))))) else (none))
end
def spec_FlowOfBoundary.f (k : Nat) (a0 : Int) (a1 : Int) (l2 : List Int) : Option (List Int × Int) := (spec_l07Code.f k a0 a1).bind fun t816 => (if t816 = 1 then (some (([] : List Int), t816)) else (if t816 = 2 then (spec_FlowOfBoundary.j0 k a0 a1 l2 t816 true) else (if a1 < 1 then (spec_FlowOfBoundary.j0 k a0 a1 l2 t816 true) else ((spec_l07Size.f k a0 a1).bind fun t817 => ((spec_l07Size.f k a0 (wrap64 (a1 - 1))).bind fun t818 => (if (l2.length : Int) = (wrap64 (t817 - t818)) then ((spec_l07Values.f k l2).bind fun t819 => (spec_FlowOfBoundary.j0 k a0 a1 l2 t816 (!t819))) else (spec_FlowOfBoundary.j0 k a0 a1 l2 t816 true)))))))
theorem spec_FlowOfBoundary.mono_l : ∀ k, (∀ y0 y1 y2 y3 y4, LeO (spec_FlowOfBoundary.j0 k y0 y1 y2 y3 y4) (spec_FlowOfBoundary.j0 (k + 1) y0 y1 y2 y3 y4)) ∧ (∀ y0 y1 y2 y3 y4, LeO (spec_FlowOfBoundary.l0 k y0 y1 y2 y3 y4) (spec_FlowOfBoundary.l0 (k + 1) y0 y1 y2 y3 y4)) ∧ (∀ y0 y1 y2 y3 y4, LeO (spec_FlowOfBoundary.l1 k y0 y1 y2 y3 y4) (spec_FlowOfBoundary.l1 (k + 1) y0 y1 y2 y3 y4))
  | 0 => ⟨fun _ _ _ _ _ r h => by simp [spec_FlowOfBoundary.j0] at h, fun _ _ _ _ _ r h => by simp [spec_FlowOfBoundary.l0] at h, fun _ _ _ _ _ r h => by simp [spec_FlowOfBoundary.l1] at h⟩
  | k + 1 => by
    obtain ⟨ih0, ih1, ih2⟩ := spec_FlowOfBoundary.mono_l k
    refine ⟨?_, ?_, ?_⟩
    · intro y0 y1 y2 y3 y4
      unfold spec_FlowOfBoundary.j0
      repeat' first
      | (with_reducible exact ih0 _ _ _ _ _)
      | (with_reducible exact ih1 _ _ _ _ _)
      | (with_reducible exact ih2 _ _ _ _ _)
      | (with_reducible exact spec_l07Code.mono _ _ _)
      | (with_reducible exact spec_l07Size.mono _ _ _)
      | (with_reducible exact spec_l07Values.mono _ _)
      | (with_reducible exact LeO.refl _)
      | (with_reducible exact LeO.none _)
      | (with_reducible refine LeO.ite ?_ ?_)
      | (with_reducible refine LeO.bind ?_ (fun _ => ?_))
      | exact ih0 _ _ _ _ _
      | exact ih1 _ _ _ _ _
      | exact ih2 _ _ _ _ _
      | exact spec_l07Code.mono _ _ _
      | exact spec_l07Size.mono _ _ _
      | exact spec_l07Values.mono _ _
      | exact LeO.none _
      | refine LeO.ite ?_ ?_
      | refine LeO.bind ?_ (fun _ => ?_)
    · intro y0 y1 y2 y3 y4
      unfold spec_FlowOfBoundary.l0
      repeat' first
      | (with_reducible exact ih0 _ _ _ _ _)
      | (with_reducible exact ih1 _ _ _ _ _)
      | (with_reducible exact ih2 _ _ _ _ _)
      | (with_reducible exact spec_l07Code.mono _ _ _)
      | (with_reducible exact spec_l07Size.mono _ _ _)
      | (with_reducible exact spec_l07Values.mono _ _)
      | (with_reducible exact LeO.refl _)
      | (with_reducible exact LeO.none _)
      | (with_reducible refine LeO.ite ?_ ?_)
      | (with_reducible refine LeO.bind ?_ (fun _ => ?_))
      | exact ih0 _ _ _ _ _
      | exact ih1 _ _ _ _ _
      | exact ih2 _ _ _ _ _
      | exact spec_l07Code.mono _ _ _
      | exact spec_l07Size.mono _ _ _
      | exact spec_l07Values.mono _ _
      | exact LeO.none _
      | refine LeO.ite ?_ ?_
      | refine LeO.bind ?_ (fun _ => ?_)
    · intro y0 y1 y2 y3 y4
      unfold spec_FlowOfBoundary.l1
      repeat' first
      | (with_reducible exact ih0 _ _ _ _ _)
      | (with_reducible exact ih1 _ _ _ _ _)
      | (with_reducible exact ih2 _ _ _ _ _)
      | (with_reducible exact spec_l07Code.mono _ _ _)
      | (with_reducible exact spec_l07Size.mono _ _ _)
      | (with_reducible exact spec_l07Values.mono _ _)
      | (with_reducible exact LeO.refl _)
      | (with_reducible exact LeO.none _)
      | (with_reducible refine LeO.ite ?_ ?_)
      | (with_reducible refine LeO.bind ?_ (fun _ => ?_))
      | exact ih0 _ _ _ _ _
      | exact ih1 _ _ _ _ _
      | exact ih2 _ _ _ _ _
      | exact spec_l07Code.mono _ _ _
      | exact spec_l07Size.mono _ _ _
      | exact spec_l07Values.mono _ _
      | exact LeO.none _
      | refine LeO.ite ?_ ?_
      | refine LeO.bind ?_ (fun _ => ?_)
theorem spec_FlowOfBoundary.mono : ∀ a0 a1 a2 k, LeO (spec_FlowOfBoundary.f k a0 a1 a2) (spec_FlowOfBoundary.f (k + 1) a0 a1 a2) := by
  intro a0 a1 a2 k
  obtain ⟨ih0, ih1, ih2⟩ := spec_FlowOfBoundary.mono_l k
  unfold spec_FlowOfBoundary.f
  repeat' first
      | (with_reducible exact ih0 _ _ _ _ _)
      | (with_reducible exact ih1 _ _ _ _ _)
      | (with_reducible exact ih2 _ _ _ _ _)
      | (with_reducible exact spec_l07Code.mono _ _ _)
      | (with_reducible exact spec_l07Size.mono _ _ _)
      | (with_reducible exact spec_l07Values.mono _ _)
      | (with_reducible exact LeO.refl _)
      | (with_reducible exact LeO.none _)
      | (with_reducible refine LeO.ite ?_ ?_)
      | (with_reducible refine LeO.bind ?_ (fun _ => ?_))
      | exact ih0 _ _ _ _ _
      | exact ih1 _ _ _ _ _
      | exact ih2 _ _ _ _ _
      | exact spec_l07Code.mono _ _ _
      | exact spec_l07Size.mono _ _ _
      | exact spec_l07Values.mono _ _
      | exact LeO.none _
      | refine LeO.ite ?_ ?_
      | refine LeO.bind ?_ (fun _ => ?_)
def spec_FlowOfBoundary.T23 : Bool × List (List Nat × List Nat) := (true, [([], []), ([], []), ([], []), ([], []), ([2, 3], [2, 3]), ([4], [4]), ([], []), ([], []), ([6, 7], [6, 7]), ([8], [8]), ([5, 9], [5, 9]), ([0, 1, 0, 1, 2, 3, 4, 5, 6, 7, 8, 9, 10], [0, 1]), ([11, 10, 0, 1, 2, 3, 4, 5, 6, 7, 8, 9, 10], [10, 11])])
def spec_FlowOfBoundary.B23 : List Nat := [0, 0, 0, 0, 12, 28, 0, 0, 192, 448, 1020, 2047, 4095]
theorem spec_FlowOfBoundary.tab23 : rtab .any (opsOf Try.f32 23) = spec_FlowOfBoundary.T23 := by kernel_rfl
theorem spec_FlowOfBoundary.bits23 : waitsOk spec_FlowOfBoundary.T23.2 spec_FlowOfBoundary.B23 = true := by kernel_rfl
set_option maxHeartbeats 8000000 in
set_option maxRecDepth 100000 in
theorem spec_FlowOfBoundary.calls (k : Nat) (a0 : Int) (a1 : Int) (A2 : Option Addr) (c2 : Nat) (l2 : List Int) (r1 : List Int) (r2 : Int) (w : World) (hr2 : Kd.C (Kd.int .i64) w A2 l2.length l2) (hc2 : l2.length ≤ c2) (h : spec_FlowOfBoundary.f k a0 a1 l2 = some (r1, r2)) :
    Calls Try.prog 32 #[.int .i64 a0, .int .i64 a1, .slice A2 l2.length c2] w fun e w' => ∃ v0_ : Value, e = .returned (.tuple #[v0_, .int .i64 r2]) ∧ Kd.R (Kd.int .i64) 2 w' w.heap.size (fun _ => True) v0_ r1 ∧ Below w.heap.size w w' := by
  have HR2 := Aside0.mk hr2
  have HC2 := Aside0.mk hc2
  clear hr2 hc2
  have HB := Aside0.mk (Below.refl w.heap.size w)
  have H : ((spec_l07Code.f k a0 a1).bind fun t816 => (if t816 = 1 then (some (([] : List Int), t816)) else (if t816 = 2 then (spec_FlowOfBoundary.j0 k a0 a1 l2 t816 true) else (if a1 < 1 then (spec_FlowOfBoundary.j0 k a0 a1 l2 t816 true) else ((spec_l07Size.f k a0 a1).bind fun t817 => ((spec_l07Size.f k a0 (wrap64 (a1 - 1))).bind fun t818 => (if (l2.length : Int) = (wrap64 (t817 - t818)) then ((spec_l07Values.f k l2).bind fun t819 => (spec_FlowOfBoundary.j0 k a0 a1 l2 t816 (!t819))) else (spec_FlowOfBoundary.j0 k a0 a1 l2 t816 true)))))))) = some (r1, r2) := h
  clear h
  replace H := Option.bind_eq_some_iff.mp H
  obtain ⟨t816, A40, H⟩ := H
  replace H : (if t816 = 1 then (some (([] : List Int), t816)) else (if t816 = 2 then (spec_FlowOfBoundary.j0 k a0 a1 l2 t816 true) else (if a1 < 1 then (spec_FlowOfBoundary.j0 k a0 a1 l2 t816 true) else ((spec_l07Size.f k a0 a1).bind fun t817 => ((spec_l07Size.f k a0 (wrap64 (a1 - 1))).bind fun t818 => (if (l2.length : Int) = (wrap64 (t817 - t818)) then ((spec_l07Values.f k l2).bind fun t819 => (spec_FlowOfBoundary.j0 k a0 a1 l2 t816 (!t819))) else (spec_FlowOfBoundary.j0 k a0 a1 l2 t816 true))))))) = some (r1, r2) := H
  have A4 := Aside0.mk A40
  clear A40
  by_cases c5 : t816 = 1
  · rw [if_pos c5] at H
    have c5b0 : (t816 == 1) = true := beq_iff_eq.mpr c5
    have c5b1 : (t816 != 1) = false := bne_eq_false_iff_eq.mpr c5
    clear c5
    simp only [Option.some.injEq, Prod.mk.injEq] at H
    obtain ⟨rfl, rfl⟩ := H
    go_enter Try.func32, Try.ntmps32
    go_wp2_with (first | ((with_reducible refine gate_callee (f := 88) rfl ?_); refine goesL_ (some 19) rfl rfl Try.func88 (by kernel_rfl) rfl #[.int .i64 a0, .int .i64 a1] rfl (by (try simp only [List.map_toArray, List.map_cons, List.map_nil]); first | done | rfl | (simp only [List.length_drop, List.length_take]; rfl)) ?_; (with_reducible refine (spec_l07Code.calls k a0 a1 t816 _ A4.out).mono ?_); rintro e w' ⟨rfl, ⟨nd, rfl⟩⟩; refine ⟨_, rfl, ?_⟩))
    go_ret2
    exact ⟨_, by first | rfl | (simp [errW_none, errW_some] <;> rfl) | (simp [*, errW_none, errW_some] <;> rfl), by first | exact Kd.R_nil _ _ _ _ _ | exact Kd.N_nil _ _ _ _ _ | exact Kd.V_nil _ _ _ _ _ | exact Kd.Q_nil _ _ _ _ _ | exact Kd.S_nil _ _ _ _ _, blA⟩
  · rw [if_neg c5] at H
    have c5b0 : (t816 == 1) = false := beq_eq_false_iff_ne.mpr c5
    have c5b1 : (t816 != 1) = true := bne_iff_ne.mpr c5
    have HC6 := Aside0.mk H
    clear H
    go_enter Try.func32, Try.ntmps32
    go_upto_region 4 with (first | ((with_reducible refine gate_callee (f := 88) rfl ?_); refine goesL_ (some 19) rfl rfl Try.func88 (by kernel_rfl) rfl #[.int .i64 a0, .int .i64 a1] rfl (by (try simp only [List.map_toArray, List.map_cons, List.map_nil]); first | done | rfl | (simp only [List.length_drop, List.length_take]; rfl)) ?_; (with_reducible refine (spec_l07Code.calls k a0 a1 t816 _ A4.out).mono ?_); rintro e w' ⟨rfl, ⟨nd, rfl⟩⟩; refine ⟨_, rfl, ?_⟩))
    (try simp only [Act.put, List.setIfInBounds_toArray, List.set_cons_zero, List.set_cons_succ])
    go_cut [46] (fun v46 wc => ∃ (kq : Nat) (x46_5 : Bool), v46 = .bool x46_5 ∧ Aside0 (spec_FlowOfBoundary.j0 kq a0 a1 l2 t816 x46_5 = some (r1, r2)) ∧ Aside0 (kq ≤ k) ∧ Aside0 (Below w.heap.size w wc))
    case first =>
      have H := HC6.out
      clear HC6
      by_cases c7 : t816 = 2
      · rw [if_pos c7] at H
        have c7b0 : (t816 == 2) = true := beq_iff_eq.mpr c7
        have c7b1 : (t816 != 2) = false := bne_eq_false_iff_eq.mpr c7
        clear c7
        (first | rw [c7b0] | (simp only [i64_w, i32_w]; rw [c7b0]) | skip)
        have H' := Aside0.mk H
        clear H
        go_wp2
        go_meet
        case rel => exact ⟨_, (true), (by first | rfl | (simp; done) | (simp [*]; done)), H', ⟨by first | omega | exact Nat.le_refl _⟩, ⟨blA⟩⟩
      · rw [if_neg c7] at H
        have c7b0 : (t816 == 2) = false := beq_eq_false_iff_ne.mpr c7
        have c7b1 : (t816 != 2) = true := bne_iff_ne.mpr c7
        (first | rw [c7b0] | (simp only [i64_w, i32_w]; rw [c7b0]) | skip)
        by_cases c8 : a1 < 1
        · rw [if_pos c8] at H
          have c8b0 : decide (a1 < 1) = true := decide_eq_true c8
          clear c8
          have H' := Aside0.mk H
          clear H
          go_wp2
          go_meet
          case rel => exact ⟨_, (true), (by first | rfl | (simp; done) | (simp [*]; done)), H', ⟨by first | omega | exact Nat.le_refl _⟩, ⟨blA⟩⟩
        · rw [if_neg c8] at H
          have c8b0 : decide (a1 < 1) = false := decide_eq_false c8
          clear c8
          replace H := Option.bind_eq_some_iff.mp H
          obtain ⟨t817, A90, H⟩ := H
          replace H : ((spec_l07Size.f k a0 (wrap64 (a1 - 1))).bind fun t818 => (if (l2.length : Int) = (wrap64 (t817 - t818)) then ((spec_l07Values.f k l2).bind fun t819 => (spec_FlowOfBoundary.j0 k a0 a1 l2 t816 (!t819))) else (spec_FlowOfBoundary.j0 k a0 a1 l2 t816 true))) = some (r1, r2) := H
          have A9 := Aside0.mk A90
          clear A90
          replace H := Option.bind_eq_some_iff.mp H
          obtain ⟨t818, A100, H⟩ := H
          replace H : (if (l2.length : Int) = (wrap64 (t817 - t818)) then ((spec_l07Values.f k l2).bind fun t819 => (spec_FlowOfBoundary.j0 k a0 a1 l2 t816 (!t819))) else (spec_FlowOfBoundary.j0 k a0 a1 l2 t816 true)) = some (r1, r2) := H
          have A10 := Aside0.mk A100
          clear A100
          by_cases c11 : (l2.length : Int) = (wrap64 (t817 - t818))
          · rw [if_pos c11] at H
            have c11b0 : ((l2.length : Int) == (wrap64 (t817 - t818))) = true := beq_iff_eq.mpr c11
            have c11b1 : ((l2.length : Int) != (wrap64 (t817 - t818))) = false := bne_eq_false_iff_eq.mpr c11
            clear c11
            replace H := Option.bind_eq_some_iff.mp H
            obtain ⟨t819, A120, H⟩ := H
            replace H : (spec_FlowOfBoundary.j0 k a0 a1 l2 t816 (!t819)) = some (r1, r2) := H
            have A12 := Aside0.mk A120
            clear A120
            have H' := Aside0.mk H
            clear H
            go_wp2_with (first | (go_at_call 89; (with_reducible refine (spec_l07Size.calls k a0 a1 t817 _ A9.out).mono ?_); rintro e w' ⟨rfl, ⟨nd, rfl⟩⟩) | (go_at_call 89; (with_reducible refine (spec_l07Size.calls k a0 (wrap64 (a1 - 1)) t818 _ A10.out).mono ?_); rintro e w' ⟨rfl, ⟨nd, rfl⟩⟩) | (go_at_call 90; (with_reducible refine (spec_l07Values.calls k _ _ l2 t819 _ ?side1 ?side2 A12.out).mono ?_); (case side1 => repeat (first | exact (Kd.C_below HR2.out blA) | (with_reducible refine Kd.C_alloc ?_ _) | (with_reducible refine Kd.C_drewN ?_ _) | (with_reducible refine Kd.C_drew ?_))); (case side2 => exact HC2.out); rintro e w' ⟨rfl, ⟨nd, rfl⟩⟩))
            go_meet
            case rel => exact ⟨_, (!t819), (by first | rfl | (simp; done) | (simp [*]; done)), H', ⟨by first | omega | exact Nat.le_refl _⟩, ⟨blA⟩⟩
          · rw [if_neg c11] at H
            have c11b0 : ((l2.length : Int) == (wrap64 (t817 - t818))) = false := beq_eq_false_iff_ne.mpr c11
            have c11b1 : ((l2.length : Int) != (wrap64 (t817 - t818))) = true := bne_iff_ne.mpr c11
            have H' := Aside0.mk H
            clear H
            go_wp2_with (first | (go_at_call 89; (with_reducible refine (spec_l07Size.calls k a0 a1 t817 _ A9.out).mono ?_); rintro e w' ⟨rfl, ⟨nd, rfl⟩⟩) | (go_at_call 89; (with_reducible refine (spec_l07Size.calls k a0 (wrap64 (a1 - 1)) t818 _ A10.out).mono ?_); rintro e w' ⟨rfl, ⟨nd, rfl⟩⟩))
            go_meet
            case rel => exact ⟨_, (true), (by first | rfl | (simp; done) | (simp [*]; done)), H', ⟨by first | omega | exact Nat.le_refl _⟩, ⟨blA⟩⟩
    case rest =>
      clear HC6
      try clear c1
      try clear c2
      try clear p2
      try clear c3
      try clear c5
      try clear c5b0
      try clear c5b1
      try clear p6
      try clear c7
      try clear c7b0
      try clear c7b1
      try clear c8
      try clear c8b0
      try clear c11
      try clear c11b0
      try clear c11b1
      obtain ⟨kq, x46_5, rfl, HA, HJ5, HB⟩ := hcut
      cases kq with
      | zero => exact absurd HA.out (by simp [spec_FlowOfBoundary.j0])
      | succ kj5 =>
        have H := HA.out
        clear HA
        simp only [spec_FlowOfBoundary.j0] at H
        by_cases c13 : x46_5 = true
        · subst c13
          have H1 : (some (([] : List Int), 2)) = some (r1, r2) := by rw [if_pos rfl] at H; exact H
          clear H
          have H := H1
          clear H1
          simp only [Option.some.injEq, Prod.mk.injEq] at H
          obtain ⟨rfl, rfl⟩ := H
          go_wp2
          go_ret2
          exact ⟨_, by first | rfl | (simp [errW_none, errW_some] <;> rfl) | (simp [*, errW_none, errW_some] <;> rfl), by first | exact Kd.R_nil _ _ _ _ _ | exact Kd.N_nil _ _ _ _ _ | exact Kd.V_nil _ _ _ _ _ | exact Kd.Q_nil _ _ _ _ _ | exact Kd.S_nil _ _ _ _ _, blA⟩
        · replace c13 := Bool.eq_false_iff.mpr c13
          subst c13
          have H1 : (if t816 = 0 then (spec_FlowOfBoundary.l0 kj5 a0 a1 l2 0 0) else (some (([] : List Int), t816))) = some (r1, r2) := by rw [if_neg (show ¬ (false = true) by decide)] at H; exact H
          clear H
          have H := H1
          clear H1
          by_cases c14 : t816 = 0
          · rw [if_pos c14] at H
            have c14b0 : (t816 == 0) = true := beq_iff_eq.mpr c14
            have c14b1 : (t816 != 0) = false := bne_eq_false_iff_eq.mpr c14
            clear c14
            have H' := Aside0.mk H
            clear H
            go_wp2
            go_loopg [9, 10] kj5 (fun kq v9 v10 w' => ∃ (x9_2 : Int) (x10_2 : Int), v9 = .int .i64 x9_2 ∧ v10 = .int .i64 x10_2 ∧ Aside0 (spec_FlowOfBoundary.l0 kq a0 a1 l2 x9_2 x10_2 = some (r1, r2)) ∧ Aside0 (kq ≤ kj5) ∧ Aside0 (Below w.heap.size w w'))
            case atStart => exact ⟨(0), (0), (by first | rfl | (simp; done) | (simp [*]; done)), (by first | rfl | (simp; done) | (simp [*]; done)), H', ⟨Nat.le_refl _⟩, ⟨blA⟩⟩
            case round =>
              clear H'
              try clear c1
              try clear c2
              try clear p2
              try clear c3
              try clear c5
              try clear c5b0
              try clear c5b1
              try clear p6
              try clear c7
              try clear c7b0
              try clear c7b1
              try clear c8
              try clear c8b0
              try clear c11
              try clear c11b0
              try clear c11b1
              try clear c13
              try clear c14
              try clear c14b0
              try clear c14b1
              try clear p2
              try clear p6
              obtain ⟨x9_2, x10_2, rfl, rfl, HA, HK2, HB⟩ := hrel
              cases gk with
              | zero => exact absurd HA.out (by simp [spec_FlowOfBoundary.l0])
              | succ k2 =>
                have H := HA.out
                clear HA
                simp only [spec_FlowOfBoundary.l0] at H
                by_cases c15 : x10_2 < (l2.length : Int)
                · rw [if_pos c15] at H
                  have c15b0 : decide (x10_2 < (l2.length : Int)) = true := decide_eq_true c15
                  clear c15
                  by_cases c16 : 0 ≤ x10_2
                  · rw [if_pos c16] at H
                    have c16b0 : decide (0 ≤ x10_2) = true := decide_eq_true c16
                    clear c16
                    have H' := Aside0.mk H
                    clear H
                    have p820 : 0 ≤ (x10_2 : Int) := of_decide_eq_true (by first | (with_reducible assumption) | assumption)
                    have q820 : x10_2 < (l2.length : Int) := of_decide_eq_true (by first | (with_reducible assumption) | assumption)
                    obtain ⟨ad820, e820, hx820_0⟩ := Kd.at_int HR2.out x10_2 p820 q820
                    cases e820
                    replace hx820_0 := (HB.out.cell (World.block_lt_of_cell? w _ hx820_0)).trans hx820_0
                    replace p820 := eq_true p820
                    replace q820 := eq_true q820
                    go_wp2
                    go_roundg k2
                    case measure => have := HJ5.out; have := HK2.out; omega
                    case rel => exact ⟨(wrap64 (x9_2 + (rd l2 x10_2))), (wrap64 (x10_2 + 1)), (by first | rfl | (simp; done) | (simp [*]; done)), (by first | rfl | (simp; done) | (simp [*]; done)), H', ⟨by have := HJ5.out; have := HK2.out; omega⟩, ⟨blA⟩⟩
                  · rw [if_neg c16] at H
                    exact absurd H (by simp)
                · rw [if_neg c15] at H
                  have c15b0 : decide (x10_2 < (l2.length : Int)) = false := decide_eq_false c15
                  clear c15
                  by_cases c17 : x9_2 = 0
                  · rw [if_pos c17] at H
                    have c17b0 : (x9_2 == 0) = true := beq_iff_eq.mpr c17
                    have c17b1 : (x9_2 != 0) = false := bne_eq_false_iff_eq.mpr c17
                    clear c17
                    replace H := Option.bind_eq_some_iff.mp H
                    obtain ⟨t821, A180, H⟩ := H
                    replace H : ((spec_l07Size.f k2 a0 (wrap64 (a1 - 1))).bind fun t822 => (if 0 ≤ t821 then (if (t821 : Int).toNat ≤ 35184372088832 then (spec_FlowOfBoundary.l1 k2 a0 l2 t822 (List.replicate (t821 : Int).toNat 0) (wrap64 (t821 - 1))) else (none)) else (none))) = some (r1, r2) := H
                    have A18 := Aside0.mk A180
                    clear A180
                    replace H := Option.bind_eq_some_iff.mp H
                    obtain ⟨t822, A190, H⟩ := H
                    replace H : (if 0 ≤ t821 then (if (t821 : Int).toNat ≤ 35184372088832 then (spec_FlowOfBoundary.l1 k2 a0 l2 t822 (List.replicate (t821 : Int).toNat 0) (wrap64 (t821 - 1))) else (none)) else (none)) = some (r1, r2) := H
                    have A19 := Aside0.mk A190
                    clear A190
                    by_cases c20 : 0 ≤ t821
                    · rw [if_pos c20] at H
                      have c20b0 := eq_true c20
                      have c20b1 : decide (0 ≤ t821) = true := decide_eq_true c20
                      clear c20
                      by_cases c21 : (t821 : Int).toNat ≤ 35184372088832
                      · rw [if_pos c21] at H
                        have c21b0 := eq_true c21
                        have c21b1 : decide ((t821 : Int).toNat ≤ 35184372088832) = true := decide_eq_true c21
                        clear c21
                        obtain ⟨y823, hy823⟩ : ∃ y_ : List Int, y_ = (List.replicate (t821 : Int).toNat 0) := ⟨_, rfl⟩
                        replace H : (spec_FlowOfBoundary.l1 k2 a0 l2 t822 y823 (wrap64 (t821 - 1))) = some (r1, r2) := by first | (rw [hy823]; with_reducible exact H) | (have H2_ := (Option.bind_some _ _).symm.trans H; rw [hy823]; with_reducible exact H2_) | (have H2_ := (Option.bind_some _ _).symm.trans H; with_reducible exact H2_) | with_reducible exact H | (rw [hy823]; exact H) | exact H
                        have Ny823 := Aside0.mk hy823
                        clear hy823
                        have H' := Aside0.mk H
                        clear H
                        go_wp2_with (first | ((with_reducible refine gate_callee (f := 89) rfl ?_); refine goesL_ (some 66) rfl rfl Try.func89 (by kernel_rfl) rfl #[.int .i64 a0, .int .i64 a1] rfl (by (try simp only [List.map_toArray, List.map_cons, List.map_nil]); first | done | rfl | (simp only [List.length_drop, List.length_take]; rfl)) ?_; (with_reducible refine (spec_l07Size.calls k2 a0 a1 t821 _ A18.out).mono ?_); rintro e w' ⟨rfl, ⟨nd, rfl⟩⟩; refine ⟨_, rfl, ?_⟩) | ((with_reducible refine gate_callee (f := 89) rfl ?_); refine goesL_ (some 70) rfl rfl Try.func89 (by kernel_rfl) rfl #[.int .i64 a0, .int .i64 (wrap64 (a1 - 1))] rfl (by (try simp only [List.map_toArray, List.map_cons, List.map_nil]); first | done | rfl | (simp only [List.length_drop, List.length_take]; rfl)) ?_; (with_reducible refine (spec_l07Size.calls k2 a0 (wrap64 (a1 - 1)) t822 _ A19.out).mono ?_); rintro e w' ⟨rfl, ⟨nd, rfl⟩⟩; refine ⟨_, rfl, ?_⟩) | ((with_reducible refine gate_dst (N := 72) rfl ?_); (try (refine gate_guard (by rfl) ?_; dsimp only)); refine Kd.R_make (Kd.int .i64) _ 2 rfl (N := 72) rfl 45 _ _ rfl t821 rfl rfl Try.underlying45 (.int .i64 0) 8 info2 rfl (by decide) (by omega) 0 (ok := fun _ => True) (okp := fun _ => True) rfl (fun _ hk => hk) trivial (of_decide_eq_true (by first | (with_reducible assumption) | assumption)) (Nat.le_trans (Nat.mul_le_mul_right _ (of_decide_eq_true (by first | (with_reducible assumption) | assumption) : t821.toNat ≤ 35184372088832)) (by omega)) (Below.refl _ _) (Nat.le_refl _) ?_; intro v824 w22 ho23 hb hg_ hnew_; clear hg_ hnew_; (first | rw [← Ny823.out] at ho23 | (simp only [Int.reduceToNat] at ho23; rw [← Ny823.out] at ho23)); have n0_ := Aside0.mk (Kd.R_lower ho23 (below_size blA)); have n1_ := Aside0.mk (below_step blA hb); clear HB; have HO825 := n0_; have HB := n1_; clear n0_ n1_; clear hb ho23))
                        go_loopg [14] k2 (fun kq v14 w' => ∃ (x13_3 : List Int) (x14_3 : Int), v14 = .int .i64 x14_3 ∧ Aside0 (spec_FlowOfBoundary.l1 kq a0 l2 t822 x13_3 x14_3 = some (r1, r2)) ∧ Aside0 (kq ≤ k2) ∧ Aside0 (Kd.R (Kd.int .i64) 2 w' w.heap.size (fun _ => True) v824 x13_3) ∧ Aside0 (Below w.heap.size w w'))
                        case atStart => exact ⟨(y823), (wrap64 (t821 - 1)), (by first | rfl | (simp; done) | (simp [*]; done)), H', ⟨Nat.le_refl _⟩, ⟨by (with_reducible repeat (first | apply Kd.R_alloc | apply Kd.R_drewN | apply Kd.R_drew)); exact HO825.out⟩, ⟨blA⟩⟩
                        case round =>
                          clear H'
                          try clear c1
                          try clear c2
                          try clear p2
                          try clear c3
                          try clear c5
                          try clear c5b0
                          try clear c5b1
                          try clear p6
                          try clear c7
                          try clear c7b0
                          try clear c7b1
                          try clear c8
                          try clear c8b0
                          try clear p8
                          try clear q8
                          try clear hx8
                          try clear c11
                          try clear c11b0
                          try clear c11b1
                          try clear c13
                          try clear c14
                          try clear c14b0
                          try clear c14b1
                          try clear c15
                          try clear c15b0
                          try clear c16
                          try clear c16b0
                          try clear c17
                          try clear c17b0
                          try clear c17b1
                          try clear c20
                          try clear c20b0
                          try clear c20b1
                          try clear c21
                          try clear c21b0
                          try clear c21b1
                          try clear hx820_0
                          try clear p2
                          try clear p6
                          try clear p820
                          try clear q820
                          obtain ⟨x13_3, x14_3, rfl, HA, HK3, HO_13, HB⟩ := hrel
                          cases gk with
                          | zero => exact absurd HA.out (by simp [spec_FlowOfBoundary.l1])
                          | succ k3 =>
                            have H := HA.out
                            clear HA
                            simp only [spec_FlowOfBoundary.l1] at H
                            by_cases c24 : x14_3 > 0
                            · rw [if_pos c24] at H
                              have c24b0 : decide (0 < x14_3) = true := decide_eq_true c24
                              clear c24
                              by_cases c25 : x14_3 ≥ t822
                              · rw [if_pos c25] at H
                                have c25b0 : decide (t822 ≤ x14_3) = true := decide_eq_true c25
                                clear c25
                                obtain ⟨ji26, hji26⟩ : ∃ j_ : Int, (wrap64 (x14_3 - t822)) = j_ := ⟨_, rfl⟩
                                replace H : (if 0 ≤ (ji26) then (if (ji26) < (l2.length : Int) then (if 0 ≤ x14_3 then (if x14_3 < (x13_3.length : Int) then ((some (x13_3.set (x14_3 : Int).toNat (rd l2 (ji26)) : List Int)).bind fun y827 => ((spec_l07Parent.f a0 x14_3).bind fun t828 => (if 0 ≤ t828 then (if t828 < (x13_3.length : Int) then (spec_FlowOfBoundary.l1 k3 a0 l2 t822 (y827.set (t828 : Int).toNat (wrap64 ((rd y827 t828) + (rd y827 x14_3)))) (wrap64 (x14_3 - 1))) else (none)) else (none)))) else (none)) else (none)) else (none)) else (none)) = some (r1, r2) := by first | (rw [hji26] at H; exact H) | (simp only [hji26] at H ⊢; exact H)
                                have hji26w : (IntKind.i64.wrap (x14_3 - t822)) = ji26 := (i64_w _).trans hji26
                                by_cases c27 : 0 ≤ (ji26)
                                · rw [if_pos c27] at H
                                  have c27b0 : decide (0 ≤ (ji26)) = true := decide_eq_true c27
                                  clear c27
                                  by_cases c28 : (ji26) < (l2.length : Int)
                                  · rw [if_pos c28] at H
                                    have c28b0 : decide ((ji26) < (l2.length : Int)) = true := decide_eq_true c28
                                    clear c28
                                    by_cases c29 : 0 ≤ x14_3
                                    · rw [if_pos c29] at H
                                      have c29b0 : decide (0 ≤ x14_3) = true := decide_eq_true c29
                                      clear c29
                                      by_cases c30 : x14_3 < (x13_3.length : Int)
                                      · rw [if_pos c30] at H
                                        have c30b0 : decide (x14_3 < (x13_3.length : Int)) = true := decide_eq_true c30
                                        clear c30
                                        obtain ⟨y827, hy827⟩ : ∃ y_ : List Int, y_ = (x13_3.set (x14_3 : Int).toNat (rd l2 (ji26))) := ⟨_, rfl⟩
                                        replace H : ((spec_l07Parent.f a0 x14_3).bind fun t828 => (if 0 ≤ t828 then (if t828 < (x13_3.length : Int) then (spec_FlowOfBoundary.l1 k3 a0 l2 t822 (y827.set (t828 : Int).toNat (wrap64 ((rd y827 t828) + (rd y827 x14_3)))) (wrap64 (x14_3 - 1))) else (none)) else (none))) = some (r1, r2) := by first | (rw [hy827]; with_reducible exact H) | (have H2_ := (Option.bind_some _ _).symm.trans H; rw [hy827]; with_reducible exact H2_) | (have H2_ := (Option.bind_some _ _).symm.trans H; with_reducible exact H2_) | with_reducible exact H | (rw [hy827]; exact H) | exact H
                                        have Ny827 := Aside0.mk hy827
                                        clear hy827
                                        replace H := Option.bind_eq_some_iff.mp H
                                        obtain ⟨t828, A320, H⟩ := H
                                        replace H : (if 0 ≤ t828 then (if t828 < (x13_3.length : Int) then (spec_FlowOfBoundary.l1 k3 a0 l2 t822 (y827.set (t828 : Int).toNat (wrap64 ((rd y827 t828) + (rd y827 x14_3)))) (wrap64 (x14_3 - 1))) else (none)) else (none)) = some (r1, r2) := H
                                        have A32 := Aside0.mk A320
                                        clear A320
                                        by_cases c33 : 0 ≤ t828
                                        · rw [if_pos c33] at H
                                          have c33b0 : decide (0 ≤ t828) = true := decide_eq_true c33
                                          clear c33
                                          by_cases c34 : t828 < (x13_3.length : Int)
                                          · rw [if_pos c34] at H
                                            have c34b0 : decide (t828 < (x13_3.length : Int)) = true := decide_eq_true c34
                                            clear c34
                                            obtain ⟨y831, hy831⟩ : ∃ y_ : List Int, y_ = (y827.set (t828 : Int).toNat (wrap64 ((rd y827 t828) + (rd y827 x14_3)))) := ⟨_, rfl⟩
                                            replace H : (spec_FlowOfBoundary.l1 k3 a0 l2 t822 y831 (wrap64 (x14_3 - 1))) = some (r1, r2) := by first | (rw [hy831]; with_reducible exact H) | (have H2_ := (Option.bind_some _ _).symm.trans H; rw [hy831]; with_reducible exact H2_) | (have H2_ := (Option.bind_some _ _).symm.trans H; with_reducible exact H2_) | with_reducible exact H | (rw [hy831]; exact H) | exact H
                                            have Ny831 := Aside0.mk hy831
                                            clear hy831
                                            have H' := Aside0.mk H
                                            clear H
                                            have p826 : 0 ≤ ((ji26) : Int) := of_decide_eq_true (by first | (with_reducible assumption) | assumption)
                                            have q826 : (ji26) < (l2.length : Int) := of_decide_eq_true (by first | (with_reducible assumption) | assumption)
                                            obtain ⟨ad826, e826, hx826_0⟩ := Kd.at_int HR2.out (ji26) p826 q826
                                            cases e826
                                            replace hx826_0 := (HB.out.cell (World.block_lt_of_cell? w _ hx826_0)).trans hx826_0
                                            replace p826 := eq_true p826
                                            replace q826 := eq_true q826
                                            have p31 : 0 ≤ (x14_3 : Int) := of_decide_eq_true (by first | (with_reducible assumption) | assumption)
                                            have q31 : (x14_3 : Int) < ((x13_3.length : Int) : Int) := of_decide_eq_true (by first | (with_reducible assumption) | assumption)
                                            obtain ⟨go31, co31, eo31, gb31, gl31, cl31, HG31⟩ := Kd.R_form HO_13.out (by omega)
                                            (first | cases eo31 | (injection eo31 with ea_ en_ ec_; (first | subst ea_ | (injection ea_ with ea_; subst ea_)); subst ec_; clear en_))
                                            have GB31 := Aside0.mk gb31
                                            have GG31 := Aside0.mk HG31
                                            clear gb31 gl31 HG31
                                            obtain ⟨hx31_0, hf31_0⟩ := Kd.R_celln 0 HO_13.out (x14_3 : Int) p31 q31
                                            replace p31 := eq_true p31
                                            replace q31 := eq_true q31
                                            have HP36 := Kd.R_putg HO_13.out (x14_3 : Int) (rd l2 (ji26))
                                            try go_wp2_with (first | ((with_reducible refine gate_store (t := 2) (p := 90) rfl ?_); refine store_event (t := 2) (p := 90) (v := ?vo_w37) (w1 := (wr.setCell ⟨go31, (x14_3 : Int).toNat, none⟩ (.int .i64 (rd l2 (ji26))))) ?hg ?ho ?hn ?hr ?_; (case ho => rfl); (case hg => rfl); (case hn => rfl); (case hr => first | (go_simp; done) | (go_simp; rfl)); intro w37 hw; have hg : wr.grownBy w37 (some go31) := (by rw [hw]; exact HP36.2); have hp_ : Kd.R (Kd.int .i64) 2 w37 w.heap.size (fun _ => True) (.slice (some ⟨go31, 0, none⟩) x13_3.length co31) y827 := (by rw [hw, Ny827.out]; exact HP36.1); clear HP36; have n0_ := Aside0.mk (hp_); have n1_ := Aside0.mk ((by rw [hw]; exact below_set (HB.out) GB31.out : Below w.heap.size w w37)); clear HO_13; clear HB; have HO_13 := n0_; have HB := n1_; clear n0_ n1_; clear hg hw hp_) | ((with_reducible refine gate_callee (f := 91) rfl ?_); refine goesL_ (some 93) rfl rfl Try.func91 (by kernel_rfl) rfl #[.int .i64 a0, .int .i64 x14_3] rfl (by (try simp only [List.map_toArray, List.map_cons, List.map_nil]); first | done | rfl | (simp only [List.length_drop, List.length_take]; rfl)) ?_; (with_reducible refine (spec_l07Parent.calls a0 x14_3 t828 _ A32.out).mono ?_); rintro e w' ⟨rfl, ⟨nd, rfl⟩⟩; refine ⟨_, rfl, ?_⟩; (try (rw [drewN_self w37]; generalize hq_ : World.drewN w37 _ = w37; have n0_ : Aside0 (Kd.R (Kd.int .i64) 2 w37 w.heap.size (fun _ => True) (.slice (some ⟨go31, 0, none⟩) x13_3.length co31) y827) := ⟨by rw [← hq_]; exact (by (with_reducible repeat (first | apply Kd.R_alloc | apply Kd.R_drewN | apply Kd.R_drew)); exact HO_13.out)⟩; have n1_ : Aside0 (Below w.heap.size w w37) := ⟨by rw [← hq_]; exact blA⟩; clear HO_13 HB hq_; have HO_13 := n0_; have HB := n1_; clear n0_ n1_))))
                                            have n0_ := Aside0.mk (Kd.R_drew HO_13.out)
                                            have n1_ := Aside0.mk (below_drew1 HB.out)
                                            clear HO_13
                                            clear HB
                                            have HO_13 := n0_
                                            have HB := n1_
                                            clear n0_ n1_
                                            have p829 : 0 ≤ (t828 : Int) := of_decide_eq_true (by first | (with_reducible assumption) | assumption)
                                            have q829 : t828 < (y827.length : Int) := (by have h_ : (t828 : Int) < ((x13_3.length : Int) : Int) := of_decide_eq_true (by first | (with_reducible assumption) | assumption); first | (have e_ := (Kd.R_reads' HO_13.out).1; omega) | simpa only [Ny827.out, List.length_set] using h_)
                                            have ql829 : ((t828 : Int) < ((x13_3.length : Int) : Int)) = True := eq_true (of_decide_eq_true (by first | (with_reducible assumption) | assumption))
                                            obtain ⟨ad829, e829, hx829_0⟩ := Kd.at_int (Kd.R_reads' HO_13.out).2.2 t828 p829 q829
                                            obtain rfl : (⟨go31, 0, none⟩ : Addr) = ad829 := (by injection e829)
                                            (first | simp only [add_plain] at hx829_0 | simp only [add_at] at hx829_0 | simp only [Addr.add, Nat.zero_add] at hx829_0 | skip)
                                            replace p829 := eq_true p829
                                            replace q829 := eq_true q829
                                            have p830 : 0 ≤ (x14_3 : Int) := of_decide_eq_true (by first | (with_reducible assumption) | assumption)
                                            have q830 : x14_3 < (y827.length : Int) := (by have h_ : (x14_3 : Int) < ((x13_3.length : Int) : Int) := of_decide_eq_true (by first | (with_reducible assumption) | assumption); first | (have e_ := (Kd.R_reads' HO_13.out).1; omega) | simpa only [Ny827.out, List.length_set] using h_)
                                            have ql830 : ((x14_3 : Int) < ((x13_3.length : Int) : Int)) = True := eq_true (of_decide_eq_true (by first | (with_reducible assumption) | assumption))
                                            obtain ⟨ad830, e830, hx830_0⟩ := Kd.at_int (Kd.R_reads' HO_13.out).2.2 x14_3 p830 q830
                                            obtain rfl : (⟨go31, 0, none⟩ : Addr) = ad830 := (by injection e830)
                                            (first | simp only [add_plain] at hx830_0 | simp only [add_at] at hx830_0 | simp only [Addr.add, Nat.zero_add] at hx830_0 | skip)
                                            replace p830 := eq_true p830
                                            replace q830 := eq_true q830
                                            have p35 : 0 ≤ (t828 : Int) := of_decide_eq_true (by first | (with_reducible assumption) | assumption)
                                            have q35 : (t828 : Int) < ((x13_3.length : Int) : Int) := of_decide_eq_true (by first | (with_reducible assumption) | assumption)
                                            obtain ⟨hx35_0, hf35_0⟩ := Kd.R_celln 0 HO_13.out (t828 : Int) p35 q35
                                            replace p35 := eq_true p35
                                            replace q35 := eq_true q35
                                            have HP39 := Kd.R_putn HO_13.out (t828 : Int) (wrap64 ((rd y827 t828) + (rd y827 x14_3)))
                                            rw [← Ny831.out] at HP39
                                            have HQ39 := Aside0.mk HP39
                                            clear HP39
                                            refine start_ (n := 13) (S := fun w' => w'.cell? ⟨go31, (t828).toNat, none⟩ = some (.int .i64 (rd y827 t828)) ∧ w'.cell? ⟨go31, (x14_3).toNat, none⟩ = some (.int .i64 (rd y827 x14_3))) (ds := [12]) #[false, false, false, false, false, false, false, false, false, false, false, false, false] (by kernel_rfl) rfl rfl ⟨hx829_0, hx830_0⟩ (fun hHeld => ?_); refine with_tabW spec_FlowOfBoundary.tab23 spec_FlowOfBoundary.bits23 (fun HT_ HW_ => ?_)
                                            generalize w37.drew = w38 at HO_13 HB HQ39 hf35_0 hx35_0 hx829_0 hx830_0 hHeld ⊢
                                            refine pure_ (i := 0) (N := some 94) (v := ?_) (a' := ?_) #[true, false, false, false, false, false, false, false, false, false, false, false, false] rfl rfl (any_of HT_.out (by kernel_rfl)) (fun _ _ _ h => h) (Or.inl ⟨by rfl, ?_⟩) ?_ ?_
                                            rotate_left
                                            · intro w'
                                              go_simp
                                              with_reducible rfl
                                            rotate_left
                                            · simp only [Act.put, List.setIfInBounds_toArray, List.set_cons_zero, List.set_cons_succ, i64_w, i32_w]
                                              rfl
                                            refine pure_ (i := 1) (N := some 95) (v := ?_) (a' := ?_) #[true, true, false, false, false, false, false, false, false, false, false, false, false] rfl rfl (any_of HT_.out (by kernel_rfl)) (fun _ _ _ h => h) (Or.inl ⟨by rfl, ?_⟩) ?_ ?_
                                            rotate_left
                                            · intro w'
                                              go_simp
                                              with_reducible rfl
                                            rotate_left
                                            · simp only [Act.put, List.setIfInBounds_toArray, List.set_cons_zero, List.set_cons_succ, i64_w, i32_w]
                                              rfl
                                            refine pure_ (i := 2) (N := some 96) (v := ?_) (a' := ?_) #[true, true, true, false, false, false, false, false, false, false, false, false, false] rfl rfl (any_of HT_.out (by kernel_rfl)) (fun _ _ _ h => h) (Or.inl ⟨by rfl, ?_⟩) ?_ ?_
                                            rotate_left
                                            · intro w'
                                              go_simp
                                              with_reducible rfl
                                            rotate_left
                                            · simp only [Act.put, List.setIfInBounds_toArray, List.set_cons_zero, List.set_cons_succ, i64_w, i32_w]
                                              rfl
                                            refine pure_ (i := 3) (N := some 97) (v := ?_) (a' := ?_) #[true, true, true, true, false, false, false, false, false, false, false, false, false] rfl rfl (any_of HT_.out (by kernel_rfl)) (fun _ _ _ h => h) (Or.inl ⟨by rfl, ?_⟩) ?_ ?_
                                            rotate_left
                                            · intro w'
                                              go_simp
                                              with_reducible rfl
                                            rotate_left
                                            · simp only [Act.put, List.setIfInBounds_toArray, List.set_cons_zero, List.set_cons_succ, i64_w, i32_w]
                                              rfl
                                            refine pure_ (i := 4) (N := some 98) (v := ?_) (a' := ?_) #[true, true, true, true, true, false, false, false, false, false, false, false, false] rfl rfl (any_of HT_.out (by kernel_rfl)) (fun _ _ _ h => h) (Or.inl ⟨by rfl, ?_⟩) ?_ ?_
                                            rotate_left
                                            · intro w'
                                              go_simp
                                              with_reducible rfl
                                            rotate_left
                                            · simp only [Act.put, List.setIfInBounds_toArray, List.set_cons_zero, List.set_cons_succ, i64_w, i32_w]
                                              rfl
                                            refine pure_ (i := 6) (N := some 100) (v := ?_) (a' := ?_) #[true, true, true, true, true, false, true, false, false, false, false, false, false] rfl rfl (any_of HT_.out (by kernel_rfl)) (fun _ _ _ h => h) (Or.inl ⟨by rfl, ?_⟩) ?_ ?_
                                            rotate_left
                                            · intro w'
                                              go_simp
                                              with_reducible rfl
                                            rotate_left
                                            · simp only [Act.put, List.setIfInBounds_toArray, List.set_cons_zero, List.set_cons_succ, i64_w, i32_w]
                                              rfl
                                            refine pure_ (i := 7) (N := some 101) (v := ?_) (a' := ?_) #[true, true, true, true, true, false, true, true, false, false, false, false, false] rfl rfl (any_of HT_.out (by kernel_rfl)) (fun _ _ _ h => h) (Or.inl ⟨by rfl, ?_⟩) ?_ ?_
                                            rotate_left
                                            · intro w'
                                              go_simp
                                              with_reducible rfl
                                            rotate_left
                                            · simp only [Act.put, List.setIfInBounds_toArray, List.set_cons_zero, List.set_cons_succ, i64_w, i32_w]
                                              rfl
                                            refine pure_ (i := 8) (N := some 102) (v := ?_) (a' := ?_) #[true, true, true, true, true, false, true, true, true, false, false, false, false] rfl rfl (any_of HT_.out (by kernel_rfl)) (fun _ _ _ h => h) (Or.inl ⟨by rfl, ?_⟩) ?_ ?_
                                            rotate_left
                                            · intro w'
                                              go_simp
                                              with_reducible rfl
                                            rotate_left
                                            · simp only [Act.put, List.setIfInBounds_toArray, List.set_cons_zero, List.set_cons_succ, i64_w, i32_w]
                                              rfl
                                            refine take_ (i := 5) (N := some 99) (v := ?_) (a' := ?_) #[true, true, true, true, true, true, true, true, true, false, false, false, false] rfl rfl (take_ofW HT_.out HW_.out (by kernel_rfl)) (fun _ _ _ h => h) (Or.inl ⟨by rfl, ?_⟩) hHeld ?_ ?_
                                            rotate_left
                                            · rintro w' ⟨s0, s1⟩
                                              go_simp
                                              with_reducible rfl
                                            rotate_left
                                            · simp only [Act.put, List.setIfInBounds_toArray, List.set_cons_zero, List.set_cons_succ, i64_w, i32_w]
                                              rfl
                                            refine take_ (i := 9) (N := some 103) (v := ?_) (a' := ?_) #[true, true, true, true, true, true, true, true, true, true, false, false, false] rfl rfl (take_ofW HT_.out HW_.out (by kernel_rfl)) (fun _ _ _ h => h) (Or.inl ⟨by rfl, ?_⟩) hHeld ?_ ?_
                                            rotate_left
                                            · rintro w' ⟨s0, s1⟩
                                              go_simp
                                              with_reducible rfl
                                            rotate_left
                                            · simp only [Act.put, List.setIfInBounds_toArray, List.set_cons_zero, List.set_cons_succ, i64_w, i32_w]
                                              rfl
                                            refine pure_ (i := 10) (N := some 104) (v := ?_) (a' := ?_) #[true, true, true, true, true, true, true, true, true, true, true, false, false] rfl rfl (any_of HT_.out (by kernel_rfl)) (fun _ _ _ h => h) (Or.inl ⟨by rfl, ?_⟩) ?_ ?_
                                            rotate_left
                                            · intro w'
                                              go_simp
                                              with_reducible rfl
                                            rotate_left
                                            · simp only [Act.put, List.setIfInBounds_toArray, List.set_cons_zero, List.set_cons_succ, i64_w, i32_w]
                                              rfl
                                            refine pure_ (i := 11) (N := some 105) (v := ?_) (a' := ?_) #[true, true, true, true, true, true, true, true, true, true, true, true, false] rfl rfl (any_of HT_.out (by kernel_rfl)) (fun _ _ _ h => h) (Or.inl ⟨by rfl, ?_⟩) ?_ ?_
                                            rotate_left
                                            · intro w'
                                              go_simp
                                              with_reducible rfl
                                            rotate_left
                                            · simp only [Act.put, List.setIfInBounds_toArray, List.set_cons_zero, List.set_cons_succ, i64_w, i32_w]
                                              rfl
                                            refine last_ (i := 12) (N := none) #[true, true, true, true, true, true, true, true, true, true, true, true, true] rfl rfl (one_of HT_.out (by kernel_rfl)) (by decide) (fun K hK => ?_)
                                            refine skip_ (w1 := ?_) (by rfl) rfl ?_ ?_
                                            rotate_left
                                            · go_simp
                                              rfl
                                            refine hK.out _ _ ?_
                                            clear hK K
                                            refine done_ (done_of HT_.out (by kernel_rfl)) ?_
                                            try go_wp2
                                            go_roundg k3
                                            case measure => have := HJ5.out; have := HK2.out; have := HK3.out; omega
                                            case rel => exact ⟨(y831), (wrap64 (x14_3 - 1)), (by first | rfl | (simp; done) | (simp [*]; done)), H', ⟨by have := HJ5.out; have := HK2.out; have := HK3.out; omega⟩, ⟨by (with_reducible repeat (first | apply Kd.R_alloc | apply Kd.R_drewN | apply Kd.R_drew)); exact HQ39.out⟩, ⟨by repeat (first | (with_reducible first | exact HB.out | apply below_alloc | apply pw_below_drewN | apply below_drew1 | refine below_set ?_ GB31.out) | exact HB.out)⟩⟩
                                          · rw [if_neg c34] at H
                                            exact absurd H (by simp)
                                        · rw [if_neg c33] at H
                                          exact absurd H (by simp)
                                      · rw [if_neg c30] at H
                                        exact absurd H (by simp)
                                    · rw [if_neg c29] at H
                                      exact absurd H (by simp)
                                  · rw [if_neg c28] at H
                                    exact absurd H (by simp)
                                · rw [if_neg c27] at H
                                  exact absurd H (by simp)
                              · rw [if_neg c25] at H
                                have c25b0 : decide (t822 ≤ x14_3) = false := decide_eq_false c25
                                clear c25
                                replace H := Option.bind_eq_some_iff.mp H
                                obtain ⟨t832, A400, H⟩ := H
                                replace H : (if 0 ≤ t832 then (if t832 < (x13_3.length : Int) then (if 0 ≤ x14_3 then (if x14_3 < (x13_3.length : Int) then (spec_FlowOfBoundary.l1 k3 a0 l2 t822 (x13_3.set (t832 : Int).toNat (wrap64 ((rd x13_3 t832) + (rd x13_3 x14_3)))) (wrap64 (x14_3 - 1))) else (none)) else (none)) else (none)) else (none)) = some (r1, r2) := H
                                have A40 := Aside0.mk A400
                                clear A400
                                by_cases c41 : 0 ≤ t832
                                · rw [if_pos c41] at H
                                  have c41b0 : decide (0 ≤ t832) = true := decide_eq_true c41
                                  clear c41
                                  by_cases c42 : t832 < (x13_3.length : Int)
                                  · rw [if_pos c42] at H
                                    have c42b0 : decide (t832 < (x13_3.length : Int)) = true := decide_eq_true c42
                                    clear c42
                                    by_cases c43 : 0 ≤ x14_3
                                    · rw [if_pos c43] at H
                                      have c43b0 : decide (0 ≤ x14_3) = true := decide_eq_true c43
                                      clear c43
                                      by_cases c44 : x14_3 < (x13_3.length : Int)
                                      · rw [if_pos c44] at H
                                        have c44b0 : decide (x14_3 < (x13_3.length : Int)) = true := decide_eq_true c44
                                        clear c44
                                        obtain ⟨y835, hy835⟩ : ∃ y_ : List Int, y_ = (x13_3.set (t832 : Int).toNat (wrap64 ((rd x13_3 t832) + (rd x13_3 x14_3)))) := ⟨_, rfl⟩
                                        replace H : (spec_FlowOfBoundary.l1 k3 a0 l2 t822 y835 (wrap64 (x14_3 - 1))) = some (r1, r2) := by first | (rw [hy835]; with_reducible exact H) | (have H2_ := (Option.bind_some _ _).symm.trans H; rw [hy835]; with_reducible exact H2_) | (have H2_ := (Option.bind_some _ _).symm.trans H; with_reducible exact H2_) | with_reducible exact H | (rw [hy835]; exact H) | exact H
                                        have Ny835 := Aside0.mk hy835
                                        clear hy835
                                        have H' := Aside0.mk H
                                        clear H
                                        try go_wp2_with (first | ((with_reducible refine gate_callee (f := 91) rfl ?_); refine goesL_ (some 93) rfl rfl Try.func91 (by kernel_rfl) rfl #[.int .i64 a0, .int .i64 x14_3] rfl (by (try simp only [List.map_toArray, List.map_cons, List.map_nil]); first | done | rfl | (simp only [List.length_drop, List.length_take]; rfl)) ?_; (with_reducible refine (spec_l07Parent.calls a0 x14_3 t832 _ A40.out).mono ?_); rintro e w' ⟨rfl, ⟨nd, rfl⟩⟩; refine ⟨_, rfl, ?_⟩; (try (rw [drewN_self wr]; generalize hq_ : World.drewN wr _ = wr; have n0_ : Aside0 (Kd.R (Kd.int .i64) 2 wr w.heap.size (fun _ => True) v824 x13_3) := ⟨by rw [← hq_]; exact (by (with_reducible repeat (first | apply Kd.R_alloc | apply Kd.R_drewN | apply Kd.R_drew)); exact HO_13.out)⟩; have n1_ : Aside0 (Below w.heap.size w wr) := ⟨by rw [← hq_]; exact blA⟩; clear HO_13 HB hq_; have HO_13 := n0_; have HB := n1_; clear n0_ n1_))))
                                        have n0_ := Aside0.mk (Kd.R_drew HO_13.out)
                                        have n1_ := Aside0.mk (below_drew1 HB.out)
                                        clear HO_13
                                        clear HB
                                        have HO_13 := n0_
                                        have HB := n1_
                                        clear n0_ n1_
                                        obtain ⟨Ao47, co47, eo47⟩ := Kd.R_slice HO_13.out
                                        (first | subst eo47 | (injection eo47 with f1_ f2_ f3_; have f4_ := f1_.symm; have f5_ := f3_.symm; clear f1_ f2_ f3_; subst f4_; subst f5_))
                                        have p833 : 0 ≤ (t832 : Int) := of_decide_eq_true (by first | (with_reducible assumption) | assumption)
                                        have q833 : t832 < (x13_3.length : Int) := of_decide_eq_true (by first | (with_reducible assumption) | assumption)
                                        obtain ⟨ad833, e833, hx833_0⟩ := Kd.at_int (Kd.R_reads' HO_13.out).2.2 t832 p833 q833
                                        cases e833
                                        replace p833 := eq_true p833
                                        replace q833 := eq_true q833
                                        have p834 : 0 ≤ (x14_3 : Int) := of_decide_eq_true (by first | (with_reducible assumption) | assumption)
                                        have q834 : x14_3 < (x13_3.length : Int) := of_decide_eq_true (by first | (with_reducible assumption) | assumption)
                                        obtain ⟨ad834, e834, hx834_0⟩ := Kd.at_int (Kd.R_reads' HO_13.out).2.2 x14_3 p834 q834
                                        obtain rfl : ad833 = ad834 := (by injection e834)
                                        replace p834 := eq_true p834
                                        replace q834 := eq_true q834
                                        have p45 : 0 ≤ (t832 : Int) := of_decide_eq_true (by first | (with_reducible assumption) | assumption)
                                        have q45 : (t832 : Int) < ((x13_3.length : Int) : Int) := of_decide_eq_true (by first | (with_reducible assumption) | assumption)
                                        obtain ⟨go45, co45, eo45, gb45, gl45, cl45, HG45⟩ := Kd.R_form HO_13.out (by omega)
                                        (first | cases eo45 | (injection eo45 with ea_ en_ ec_; (first | subst ea_ | (injection ea_ with ea_; subst ea_)); subst ec_; clear en_))
                                        have GB45 := Aside0.mk gb45
                                        have GG45 := Aside0.mk HG45
                                        clear gb45 gl45 HG45
                                        (first | simp only [add_plain] at hx833_0 | skip)
                                        (first | simp only [add_plain] at hx834_0 | skip)
                                        obtain ⟨hx45_0, hf45_0⟩ := Kd.R_celln 0 HO_13.out (t832 : Int) p45 q45
                                        replace p45 := eq_true p45
                                        replace q45 := eq_true q45
                                        have HP48 := Kd.R_putn HO_13.out (t832 : Int) (wrap64 ((rd x13_3 t832) + (rd x13_3 x14_3)))
                                        rw [← Ny835.out] at HP48
                                        have HQ48 := Aside0.mk HP48
                                        clear HP48
                                        refine start_ (n := 13) (S := fun w' => w'.cell? ⟨go45, (t832).toNat, none⟩ = some (.int .i64 (rd x13_3 t832)) ∧ w'.cell? ⟨go45, (x14_3).toNat, none⟩ = some (.int .i64 (rd x13_3 x14_3))) (ds := [12]) #[false, false, false, false, false, false, false, false, false, false, false, false, false] (by kernel_rfl) rfl rfl ⟨hx833_0, hx834_0⟩ (fun hHeld => ?_); refine with_tabW spec_FlowOfBoundary.tab23 spec_FlowOfBoundary.bits23 (fun HT_ HW_ => ?_)
                                        generalize wr.drew = w46 at HO_13 HB GG45 HQ48 hf45_0 hx45_0 hx833_0 hx834_0 hHeld ⊢
                                        refine pure_ (i := 0) (N := some 94) (v := ?_) (a' := ?_) #[true, false, false, false, false, false, false, false, false, false, false, false, false] rfl rfl (any_of HT_.out (by kernel_rfl)) (fun _ _ _ h => h) (Or.inl ⟨by rfl, ?_⟩) ?_ ?_
                                        rotate_left
                                        · intro w'
                                          go_simp
                                          with_reducible rfl
                                        rotate_left
                                        · simp only [Act.put, List.setIfInBounds_toArray, List.set_cons_zero, List.set_cons_succ, i64_w, i32_w]
                                          rfl
                                        refine pure_ (i := 1) (N := some 95) (v := ?_) (a' := ?_) #[true, true, false, false, false, false, false, false, false, false, false, false, false] rfl rfl (any_of HT_.out (by kernel_rfl)) (fun _ _ _ h => h) (Or.inl ⟨by rfl, ?_⟩) ?_ ?_
                                        rotate_left
                                        · intro w'
                                          go_simp
                                          with_reducible rfl
                                        rotate_left
                                        · simp only [Act.put, List.setIfInBounds_toArray, List.set_cons_zero, List.set_cons_succ, i64_w, i32_w]
                                          rfl
                                        refine pure_ (i := 2) (N := some 96) (v := ?_) (a' := ?_) #[true, true, true, false, false, false, false, false, false, false, false, false, false] rfl rfl (any_of HT_.out (by kernel_rfl)) (fun _ _ _ h => h) (Or.inl ⟨by rfl, ?_⟩) ?_ ?_
                                        rotate_left
                                        · intro w'
                                          go_simp
                                          with_reducible rfl
                                        rotate_left
                                        · simp only [Act.put, List.setIfInBounds_toArray, List.set_cons_zero, List.set_cons_succ, i64_w, i32_w]
                                          rfl
                                        refine pure_ (i := 3) (N := some 97) (v := ?_) (a' := ?_) #[true, true, true, true, false, false, false, false, false, false, false, false, false] rfl rfl (any_of HT_.out (by kernel_rfl)) (fun _ _ _ h => h) (Or.inl ⟨by rfl, ?_⟩) ?_ ?_
                                        rotate_left
                                        · intro w'
                                          go_simp
                                          with_reducible rfl
                                        rotate_left
                                        · simp only [Act.put, List.setIfInBounds_toArray, List.set_cons_zero, List.set_cons_succ, i64_w, i32_w]
                                          rfl
                                        refine pure_ (i := 4) (N := some 98) (v := ?_) (a' := ?_) #[true, true, true, true, true, false, false, false, false, false, false, false, false] rfl rfl (any_of HT_.out (by kernel_rfl)) (fun _ _ _ h => h) (Or.inl ⟨by rfl, ?_⟩) ?_ ?_
                                        rotate_left
                                        · intro w'
                                          go_simp
                                          with_reducible rfl
                                        rotate_left
                                        · simp only [Act.put, List.setIfInBounds_toArray, List.set_cons_zero, List.set_cons_succ, i64_w, i32_w]
                                          rfl
                                        refine pure_ (i := 6) (N := some 100) (v := ?_) (a' := ?_) #[true, true, true, true, true, false, true, false, false, false, false, false, false] rfl rfl (any_of HT_.out (by kernel_rfl)) (fun _ _ _ h => h) (Or.inl ⟨by rfl, ?_⟩) ?_ ?_
                                        rotate_left
                                        · intro w'
                                          go_simp
                                          with_reducible rfl
                                        rotate_left
                                        · simp only [Act.put, List.setIfInBounds_toArray, List.set_cons_zero, List.set_cons_succ, i64_w, i32_w]
                                          rfl
                                        refine pure_ (i := 7) (N := some 101) (v := ?_) (a' := ?_) #[true, true, true, true, true, false, true, true, false, false, false, false, false] rfl rfl (any_of HT_.out (by kernel_rfl)) (fun _ _ _ h => h) (Or.inl ⟨by rfl, ?_⟩) ?_ ?_
                                        rotate_left
                                        · intro w'
                                          go_simp
                                          with_reducible rfl
                                        rotate_left
                                        · simp only [Act.put, List.setIfInBounds_toArray, List.set_cons_zero, List.set_cons_succ, i64_w, i32_w]
                                          rfl
                                        refine pure_ (i := 8) (N := some 102) (v := ?_) (a' := ?_) #[true, true, true, true, true, false, true, true, true, false, false, false, false] rfl rfl (any_of HT_.out (by kernel_rfl)) (fun _ _ _ h => h) (Or.inl ⟨by rfl, ?_⟩) ?_ ?_
                                        rotate_left
                                        · intro w'
                                          go_simp
                                          with_reducible rfl
                                        rotate_left
                                        · simp only [Act.put, List.setIfInBounds_toArray, List.set_cons_zero, List.set_cons_succ, i64_w, i32_w]
                                          rfl
                                        refine take_ (i := 5) (N := some 99) (v := ?_) (a' := ?_) #[true, true, true, true, true, true, true, true, true, false, false, false, false] rfl rfl (take_ofW HT_.out HW_.out (by kernel_rfl)) (fun _ _ _ h => h) (Or.inl ⟨by rfl, ?_⟩) hHeld ?_ ?_
                                        rotate_left
                                        · rintro w' ⟨s0, s1⟩
                                          go_simp
                                          with_reducible rfl
                                        rotate_left
                                        · simp only [Act.put, List.setIfInBounds_toArray, List.set_cons_zero, List.set_cons_succ, i64_w, i32_w]
                                          rfl
                                        refine take_ (i := 9) (N := some 103) (v := ?_) (a' := ?_) #[true, true, true, true, true, true, true, true, true, true, false, false, false] rfl rfl (take_ofW HT_.out HW_.out (by kernel_rfl)) (fun _ _ _ h => h) (Or.inl ⟨by rfl, ?_⟩) hHeld ?_ ?_
                                        rotate_left
                                        · rintro w' ⟨s0, s1⟩
                                          go_simp
                                          with_reducible rfl
                                        rotate_left
                                        · simp only [Act.put, List.setIfInBounds_toArray, List.set_cons_zero, List.set_cons_succ, i64_w, i32_w]
                                          rfl
                                        refine pure_ (i := 10) (N := some 104) (v := ?_) (a' := ?_) #[true, true, true, true, true, true, true, true, true, true, true, false, false] rfl rfl (any_of HT_.out (by kernel_rfl)) (fun _ _ _ h => h) (Or.inl ⟨by rfl, ?_⟩) ?_ ?_
                                        rotate_left
                                        · intro w'
                                          go_simp
                                          with_reducible rfl
                                        rotate_left
                                        · simp only [Act.put, List.setIfInBounds_toArray, List.set_cons_zero, List.set_cons_succ, i64_w, i32_w]
                                          rfl
                                        refine pure_ (i := 11) (N := some 105) (v := ?_) (a' := ?_) #[true, true, true, true, true, true, true, true, true, true, true, true, false] rfl rfl (any_of HT_.out (by kernel_rfl)) (fun _ _ _ h => h) (Or.inl ⟨by rfl, ?_⟩) ?_ ?_
                                        rotate_left
                                        · intro w'
                                          go_simp
                                          with_reducible rfl
                                        rotate_left
                                        · simp only [Act.put, List.setIfInBounds_toArray, List.set_cons_zero, List.set_cons_succ, i64_w, i32_w]
                                          rfl
                                        refine last_ (i := 12) (N := none) #[true, true, true, true, true, true, true, true, true, true, true, true, true] rfl rfl (one_of HT_.out (by kernel_rfl)) (by decide) (fun K hK => ?_)
                                        refine skip_ (w1 := ?_) (by rfl) rfl ?_ ?_
                                        rotate_left
                                        · go_simp
                                          rfl
                                        refine hK.out _ _ ?_
                                        clear hK K
                                        refine done_ (done_of HT_.out (by kernel_rfl)) ?_
                                        try go_wp2
                                        go_roundg k3
                                        case measure => have := HJ5.out; have := HK2.out; have := HK3.out; omega
                                        case rel => exact ⟨(y835), (wrap64 (x14_3 - 1)), (by first | rfl | (simp; done) | (simp [*]; done)), H', ⟨by have := HJ5.out; have := HK2.out; have := HK3.out; omega⟩, ⟨by (with_reducible repeat (first | apply Kd.R_alloc | apply Kd.R_drewN | apply Kd.R_drew)); exact HQ48.out⟩, ⟨by repeat (first | (with_reducible first | exact HB.out | apply below_alloc | apply pw_below_drewN | apply below_drew1 | refine below_set ?_ GB45.out) | exact HB.out)⟩⟩
                                      · rw [if_neg c44] at H
                                        exact absurd H (by simp)
                                    · rw [if_neg c43] at H
                                      exact absurd H (by simp)
                                  · rw [if_neg c42] at H
                                    exact absurd H (by simp)
                                · rw [if_neg c41] at H
                                  exact absurd H (by simp)
                            · rw [if_neg c24] at H
                              have c24b0 : decide (0 < x14_3) = false := decide_eq_false c24
                              clear c24
                              by_cases c49 : 1 ≤ (x13_3.length : Int)
                              · rw [if_pos c49] at H
                                have c49b0 := eq_true c49
                                have c49b1 : decide (1 ≤ (x13_3.length : Int)) = true := decide_eq_true c49
                                clear c49
                                obtain ⟨y836, hy836⟩ : ∃ y_ : List Int, y_ = (x13_3.drop 1) := ⟨_, rfl⟩
                                replace H : ((spec_l01Own.f y836).bind fun t840 => ((spec_l07Values.f k3 t840).bind fun t843 => (if t843 = true then (some (t840, 0)) else (some (([] : List Int), 3))))) = some (r1, r2) := by first | (rw [hy836]; with_reducible exact H) | (have H2_ := (Option.bind_some _ _).symm.trans H; rw [hy836]; with_reducible exact H2_) | (have H2_ := (Option.bind_some _ _).symm.trans H; with_reducible exact H2_) | with_reducible exact H | (rw [hy836]; exact H) | exact H
                                have Ny836 := Aside0.mk hy836
                                clear hy836
                                replace H := Option.bind_eq_some_iff.mp H
                                obtain ⟨t840, A500, H⟩ := H
                                replace H : ((spec_l07Values.f k3 t840).bind fun t843 => (if t843 = true then (some (t840, 0)) else (some (([] : List Int), 3)))) = some (r1, r2) := H
                                have A50 := Aside0.mk A500
                                clear A500
                                replace H := Option.bind_eq_some_iff.mp H
                                obtain ⟨t843, A510, H⟩ := H
                                replace H : (if t843 = true then (some (t840, 0)) else (some (([] : List Int), 3))) = some (r1, r2) := H
                                have A51 := Aside0.mk A510
                                clear A510
                                by_cases c52 : t843 = true
                                · subst c52
                                  have H1 : (some (t840, 0)) = some (r1, r2) := by rw [if_pos rfl] at H; exact H
                                  clear H
                                  have H := H1
                                  clear H1
                                  simp only [Option.some.injEq, Prod.mk.injEq] at H
                                  obtain ⟨rfl, rfl⟩ := H
                                  obtain ⟨Ao54, co54, eo54⟩ := Kd.R_slice HO_13.out
                                  subst eo54
                                  have q53 : (1 : Int) ≤ ((x13_3.length : Int) : Int) := of_decide_eq_true (by first | (with_reducible assumption) | assumption)
                                  obtain ⟨i053, hi053, _, hsz53, _⟩ := info_parts info2
                                  have hroom53 : x13_3.length ≤ co54 := (Kd.R_reads' HO_13.out).2.1
                                  have hC53 : Kd.C (Kd.int .i64) _ Ao54 x13_3.length x13_3 := (Kd.R_reads' HO_13.out).2.2
                                  have hcut53 := cut_from (P := Try.prog) 45 2 .i64 Try.underlying45 hi053 1 hsz53 Ao54 x13_3.length co54 1 (by omega) q53
                                  have hr53 := Kd.C_drop (m := (1 : Int).toNat) (c := co54) hC53 (by omega) hroom53
                                  obtain ⟨A53, hA53⟩ : ∃ A1, A1 = (if co54 = (1 : Int).toNat then Ao54 else (Ao54 : Option Addr).map (·.add ((1 : Int).toNat * 1))) := ⟨_, rfl⟩
                                  obtain ⟨c53, hc53⟩ : ∃ c1, c1 = co54 - (1 : Int).toNat := ⟨_, rfl⟩
                                  have hy53 : y836.length = x13_3.length - (1 : Int).toNat := (by rw [Ny836.out, List.length_drop] <;> omega)
                                  rw [show (x13_3).drop (1 : Int).toNat = y836 from Ny836.out.symm] at hr53
                                  replace hr53 : Kd.C (Kd.int .i64) _ A53 y836.length y836 := (by rw [hA53]; exact hr53)
                                  rw [← hy53, ← hA53, ← hc53] at hcut53
                                  have HR839 := Aside0.mk hr53
                                  have HC839 := Aside0.mk (show y836.length ≤ c53 from by rw [hy53, hc53]; exact Nat.sub_le_sub_right hroom53 _)
                                  clear hr53 hC53 hroom53 hi053 hsz53 hc53
                                  have KY53 := Aside0.mk hy53
                                  have KA53 := Aside0.mk hA53
                                  clear hy53 hA53
                                  have KL53 := Aside0.mk (show 1 ≤ x13_3.length from by omega)
                                  replace q53 := eq_true q53
                                  go_wp2_with (first | ((with_reducible refine gate_callee (f := 92) rfl ?_); refine goesL_ (some 108) rfl rfl Try.func92 (by kernel_rfl) rfl #[.slice A53 y836.length c53] rfl (by (try simp only [List.map_toArray, List.map_cons, List.map_nil]); first | done | rfl | (simp only [List.length_drop, List.length_take]; rfl)) ?_; (with_reducible refine (spec_l01Own.calls _ _ y836 t840 _ ?side1 ?side2 A50.out).mono ?_); (case side1 => repeat (first | exact (by repeat (first | (with_reducible exact HR839.out) | (with_reducible refine Kd.C_alloc ?_ _) | (with_reducible refine Kd.C_drewN ?_ _) | (with_reducible refine Kd.C_drew ?_) | exact HR839.out)) | (with_reducible refine Kd.C_alloc ?_ _) | (with_reducible refine Kd.C_drewN ?_ _) | (with_reducible refine Kd.C_drew ?_))); (case side2 => exact HC839.out); rintro e w55 ⟨v841, rfl, ho0, hb⟩; refine ⟨_, rfl, ?_⟩; have n0_ := Aside0.mk (Kd.R_elder' (by (with_reducible repeat (first | apply Kd.R_alloc | apply Kd.R_drewN | apply Kd.R_drew)); exact HO_13.out) (Kd.R_base ho0) hb); have n1_ := Aside0.mk (Kd.R_lower (Kd.R_new' ho0 (Kd.R_lt (by (with_reducible repeat (first | apply Kd.R_alloc | apply Kd.R_drewN | apply Kd.R_drew)); exact HO_13.out))) (below_size blA)); have n2_ := Aside0.mk (Kd.C_below (by repeat (first | (with_reducible exact HR839.out) | (with_reducible refine Kd.C_alloc ?_ _) | (with_reducible refine Kd.C_drewN ?_ _) | (with_reducible refine Kd.C_drew ?_) | exact HR839.out)) hb); have n3_ := Aside0.mk (below_step blA hb); clear HO_13; clear HR839; clear HB; have HO_13 := n0_; have HO842 := n1_; have HR839 := n2_; have HB := n3_; clear n0_ n1_ n2_ n3_; (try clear hb); (try clear hb2); (try clear hk); (try clear hi); (try clear ho0); obtain ⟨Ao56, co56, eo56⟩ := Kd.R_slice HO842.out; subst eo56) | ((with_reducible refine gate_callee (f := 90) rfl ?_); refine goesL_ (some 110) rfl rfl Try.func90 (by kernel_rfl) rfl #[.slice Ao56 t840.length co56] rfl (by (try simp only [List.map_toArray, List.map_cons, List.map_nil]); first | done | rfl | (simp only [List.length_drop, List.length_take]; rfl)) ?_; (with_reducible refine (spec_l07Values.calls k3 _ _ t840 true _ ?side1 ?side2 A51.out).mono ?_); (case side1 => repeat (first | exact (Kd.R_reads' HO842.out).2.2 | (with_reducible refine Kd.C_alloc ?_ _) | (with_reducible refine Kd.C_drewN ?_ _) | (with_reducible refine Kd.C_drew ?_))); (case side2 => exact (Kd.R_reads' HO842.out).2.1); rintro e w' ⟨rfl, ⟨nd, rfl⟩⟩; refine ⟨_, rfl, ?_⟩))
                                  go_ret2
                                  exact ⟨_, by first | rfl | (simp [errW_none, errW_some] <;> rfl) | (simp [*, errW_none, errW_some] <;> rfl), by (with_reducible repeat (first | apply Kd.R_alloc | apply Kd.R_drewN | apply Kd.R_drew)); exact Kd.R_mono HO842.out (fun _ hk => trivial), blA⟩
                                · replace c52 := Bool.eq_false_iff.mpr c52
                                  subst c52
                                  have H1 : (some (([] : List Int), 3)) = some (r1, r2) := by rw [if_neg (show ¬ (false = true) by decide)] at H; exact H
                                  clear H
                                  have H := H1
                                  clear H1
                                  simp only [Option.some.injEq, Prod.mk.injEq] at H
                                  obtain ⟨rfl, rfl⟩ := H
                                  obtain ⟨Ao58, co58, eo58⟩ := Kd.R_slice HO_13.out
                                  subst eo58
                                  have q57 : (1 : Int) ≤ ((x13_3.length : Int) : Int) := of_decide_eq_true (by first | (with_reducible assumption) | assumption)
                                  obtain ⟨i057, hi057, _, hsz57, _⟩ := info_parts info2
                                  have hroom57 : x13_3.length ≤ co58 := (Kd.R_reads' HO_13.out).2.1
                                  have hC57 : Kd.C (Kd.int .i64) _ Ao58 x13_3.length x13_3 := (Kd.R_reads' HO_13.out).2.2
                                  have hcut57 := cut_from (P := Try.prog) 45 2 .i64 Try.underlying45 hi057 1 hsz57 Ao58 x13_3.length co58 1 (by omega) q57
                                  have hr57 := Kd.C_drop (m := (1 : Int).toNat) (c := co58) hC57 (by omega) hroom57
                                  obtain ⟨A57, hA57⟩ : ∃ A1, A1 = (if co58 = (1 : Int).toNat then Ao58 else (Ao58 : Option Addr).map (·.add ((1 : Int).toNat * 1))) := ⟨_, rfl⟩
                                  obtain ⟨c57, hc57⟩ : ∃ c1, c1 = co58 - (1 : Int).toNat := ⟨_, rfl⟩
                                  have hy57 : y836.length = x13_3.length - (1 : Int).toNat := (by rw [Ny836.out, List.length_drop] <;> omega)
                                  rw [show (x13_3).drop (1 : Int).toNat = y836 from Ny836.out.symm] at hr57
                                  replace hr57 : Kd.C (Kd.int .i64) _ A57 y836.length y836 := (by rw [hA57]; exact hr57)
                                  rw [← hy57, ← hA57, ← hc57] at hcut57
                                  have HR839 := Aside0.mk hr57
                                  have HC839 := Aside0.mk (show y836.length ≤ c57 from by rw [hy57, hc57]; exact Nat.sub_le_sub_right hroom57 _)
                                  clear hr57 hC57 hroom57 hi057 hsz57 hc57
                                  have KY57 := Aside0.mk hy57
                                  have KA57 := Aside0.mk hA57
                                  clear hy57 hA57
                                  have KL57 := Aside0.mk (show 1 ≤ x13_3.length from by omega)
                                  replace q57 := eq_true q57
                                  go_wp2_with (first | ((with_reducible refine gate_callee (f := 92) rfl ?_); refine goesL_ (some 108) rfl rfl Try.func92 (by kernel_rfl) rfl #[.slice A57 y836.length c57] rfl (by (try simp only [List.map_toArray, List.map_cons, List.map_nil]); first | done | rfl | (simp only [List.length_drop, List.length_take]; rfl)) ?_; (with_reducible refine (spec_l01Own.calls _ _ y836 t840 _ ?side1 ?side2 A50.out).mono ?_); (case side1 => repeat (first | exact (by repeat (first | (with_reducible exact HR839.out) | (with_reducible refine Kd.C_alloc ?_ _) | (with_reducible refine Kd.C_drewN ?_ _) | (with_reducible refine Kd.C_drew ?_) | exact HR839.out)) | (with_reducible refine Kd.C_alloc ?_ _) | (with_reducible refine Kd.C_drewN ?_ _) | (with_reducible refine Kd.C_drew ?_))); (case side2 => exact HC839.out); rintro e w59 ⟨v841, rfl, ho0, hb⟩; refine ⟨_, rfl, ?_⟩; have n0_ := Aside0.mk (Kd.R_elder' (by (with_reducible repeat (first | apply Kd.R_alloc | apply Kd.R_drewN | apply Kd.R_drew)); exact HO_13.out) (Kd.R_base ho0) hb); have n1_ := Aside0.mk (Kd.R_lower (Kd.R_new' ho0 (Kd.R_lt (by (with_reducible repeat (first | apply Kd.R_alloc | apply Kd.R_drewN | apply Kd.R_drew)); exact HO_13.out))) (below_size blA)); have n2_ := Aside0.mk (Kd.C_below (by repeat (first | (with_reducible exact HR839.out) | (with_reducible refine Kd.C_alloc ?_ _) | (with_reducible refine Kd.C_drewN ?_ _) | (with_reducible refine Kd.C_drew ?_) | exact HR839.out)) hb); have n3_ := Aside0.mk (below_step blA hb); clear HO_13; clear HR839; clear HB; have HO_13 := n0_; have HO842 := n1_; have HR839 := n2_; have HB := n3_; clear n0_ n1_ n2_ n3_; (try clear hb); (try clear hb2); (try clear hk); (try clear hi); (try clear ho0); obtain ⟨Ao60, co60, eo60⟩ := Kd.R_slice HO842.out; subst eo60) | ((with_reducible refine gate_callee (f := 90) rfl ?_); refine goesL_ (some 110) rfl rfl Try.func90 (by kernel_rfl) rfl #[.slice Ao60 t840.length co60] rfl (by (try simp only [List.map_toArray, List.map_cons, List.map_nil]); first | done | rfl | (simp only [List.length_drop, List.length_take]; rfl)) ?_; (with_reducible refine (spec_l07Values.calls k3 _ _ t840 false _ ?side1 ?side2 A51.out).mono ?_); (case side1 => repeat (first | exact (Kd.R_reads' HO842.out).2.2 | (with_reducible refine Kd.C_alloc ?_ _) | (with_reducible refine Kd.C_drewN ?_ _) | (with_reducible refine Kd.C_drew ?_))); (case side2 => exact (Kd.R_reads' HO842.out).2.1); rintro e w' ⟨rfl, ⟨nd, rfl⟩⟩; refine ⟨_, rfl, ?_⟩))
                                  go_ret2
                                  exact ⟨_, by first | rfl | (simp [errW_none, errW_some] <;> rfl) | (simp [*, errW_none, errW_some] <;> rfl), by first | exact Kd.R_nil _ _ _ _ _ | exact Kd.N_nil _ _ _ _ _ | exact Kd.V_nil _ _ _ _ _ | exact Kd.Q_nil _ _ _ _ _ | exact Kd.S_nil _ _ _ _ _, blA⟩
                              · rw [if_neg c49] at H
                                exact absurd H (by simp)
                      · rw [if_neg c21] at H
                        exact absurd H (by simp)
                    · rw [if_neg c20] at H
                      exact absurd H (by simp)
                  · rw [if_neg c17] at H
                    have c17b0 : (x9_2 == 0) = false := beq_eq_false_iff_ne.mpr c17
                    have c17b1 : (x9_2 != 0) = true := bne_iff_ne.mpr c17
                    simp only [Option.some.injEq, Prod.mk.injEq] at H
                    obtain ⟨rfl, rfl⟩ := H
                    go_wp2
                    go_ret2
                    exact ⟨_, by first | rfl | (simp [errW_none, errW_some] <;> rfl) | (simp [*, errW_none, errW_some] <;> rfl), by first | exact Kd.R_nil _ _ _ _ _ | exact Kd.N_nil _ _ _ _ _ | exact Kd.V_nil _ _ _ _ _ | exact Kd.Q_nil _ _ _ _ _ | exact Kd.S_nil _ _ _ _ _, blA⟩
          · rw [if_neg c14] at H
            have c14b0 : (t816 == 0) = false := beq_eq_false_iff_ne.mpr c14
            have c14b1 : (t816 != 0) = true := bne_iff_ne.mpr c14
            simp only [Option.some.injEq, Prod.mk.injEq] at H
            obtain ⟨rfl, rfl⟩ := H
            go_wp2
            go_ret2
            exact ⟨_, by first | rfl | (simp [errW_none, errW_some] <;> rfl) | (simp [*, errW_none, errW_some] <;> rfl), by first | exact Kd.R_nil _ _ _ _ _ | exact Kd.N_nil _ _ _ _ _ | exact Kd.V_nil _ _ _ _ _ | exact Kd.Q_nil _ _ _ _ _ | exact Kd.S_nil _ _ _ _ _, blA⟩
end Go.Proofs.Ytfkglijnbgijbaa.PAll
