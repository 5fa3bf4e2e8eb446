-- turned for this claim out of the kit's print: the same functions, packed anew
import Derived.Test.YtfkglijnbgijbaaQx
import Derived.Test.YtfkglijnbgijbaaQspecl01Pick
import Derived.Test.YtfkglijnbgijbaaQspecl07Places
namespace Go.Proofs.Ytfkglijnbgijbaa.PAll
open Go.RowKit Go.Proofs.YtfkglijnbgijbaaW.PrintWords Go.Proofs.YtfkglijnbgijbaaW.PrintLast Go.Proofs.YtfkglijnbgijbaaW.PrintMore
attribute [local go_sem] Go.Proofs.Ytfkglijnbgijbaa.Aux.setCell_drewN Go.Proofs.Ytfkglijnbgijbaa.Aux.isSome_setCell Go.Proofs.Ytfkglijnbgijbaa.Aux.max_eight max2_int min2_int max_two min_two max_three min_three max_four min_four   -- for this text's walks alone
set_option linter.unusedVariables false
set_option linter.unusedSimpArgs false
/-! ### impl_KeepsRule: function 34 -/
mutual
def impl_KeepsRule.l0 : Nat → Int → List Int → Int → Int → Option (Bool × Int)
  | 0, _, _, _, _ => none
  | k + 1, x0, x2, x25, x26 => if x26 < x25 then (if x26 > 0 then (if 0 ≤ (wrap64 (x26 - 1)) then (if (wrap64 (x26 - 1)) < (x2.length : Int) then (impl_KeepsRule.j1 k x0 x2 x26 (wrap64 (-(rd x2 (wrap64 (x26 - 1))))) x25 x26) else (none)) else (none)) else (impl_KeepsRule.j1 k x0 x2 x26 0 x25 x26)) else (some (true, 0))
def impl_KeepsRule.j1 : Nat → Int → List Int → Int → Int → Int → Int → Option (Bool × Int)
  | 0, _, _, _, _, _, _ => none
  | k + 1, x0, x2, x9, x10, x25, x26 => (impl_childPlaces.f k x0 x9).bind fun t860 => (impl_KeepsRule.l1 k x0 x2 x10 x25 x26 t860 (t860.length : Int) 0)
def impl_KeepsRule.l1 : Nat → Int → List Int → Int → Int → Int → List Int → Int → Int → Option (Bool × Int)
  | 0, _, _, _, _, _, _, _, _ => none
  | k + 1, x0, x2, x10, x25, x26, x39, x40, x41 => if x41 < x40 then (if 0 ≤ x41 then (if x41 < (x39.length : Int) then (if 0 ≤ (wrap64 ((rd x39 x41) - 1)) then (if (wrap64 ((rd x39 x41) - 1)) < (x2.length : Int) then (impl_KeepsRule.l1 k x0 x2 (wrap64 (x10 + (rd x2 (wrap64 ((rd x39 x41) - 1))))) x25 x26 x39 x40 (wrap64 (x41 + 1))) else (none)) else (none)) else (none)) else (none)) else (if x10 = 0 then (impl_KeepsRule.l0 k x0 x2 x25 (wrap64 (x26 + 1))) else (some (false, 0)))
end
def impl_KeepsRule.f (k : Nat) (a0 : Int) (a1 : Int) (l2 : List Int) : Option (Bool × Int) := (impl_listCode.f k a0 a1 0 l2 1).bind fun t857 => (if t857 = 0 then (if a1 = 0 then (some (true, 0)) else ((impl_regionSize.f k a0 (wrap64 (a1 - 1))).bind fun t858 => (impl_KeepsRule.l0 k a0 l2 t858 0))) else (some (false, t857)))
theorem impl_KeepsRule.mono_l : ∀ k, (∀ y0 y1 y2 y3, LeO (impl_KeepsRule.l0 k y0 y1 y2 y3) (impl_KeepsRule.l0 (k + 1) y0 y1 y2 y3)) ∧ (∀ y0 y1 y2 y3 y4 y5, LeO (impl_KeepsRule.j1 k y0 y1 y2 y3 y4 y5) (impl_KeepsRule.j1 (k + 1) y0 y1 y2 y3 y4 y5)) ∧ (∀ y0 y1 y2 y3 y4 y5 y6 y7, LeO (impl_KeepsRule.l1 k y0 y1 y2 y3 y4 y5 y6 y7) (impl_KeepsRule.l1 (k + 1) y0 y1 y2 y3 y4 y5 y6 y7))
  | 0 => ⟨fun _ _ _ _ r h => by simp [impl_KeepsRule.l0] at h, fun _ _ _ _ _ _ r h => by simp [impl_KeepsRule.j1] at h, fun _ _ _ _ _ _ _ _ r h => by simp [impl_KeepsRule.l1] at h⟩
  | k + 1 => by
    obtain ⟨ih0, ih1, ih2⟩ := impl_KeepsRule.mono_l k
    refine ⟨?_, ?_, ?_⟩
    · intro y0 y1 y2 y3
      unfold impl_KeepsRule.l0
      repeat' first
      | (with_reducible exact ih0 _ _ _ _)
      | (with_reducible exact ih1 _ _ _ _ _ _)
      | (with_reducible exact ih2 _ _ _ _ _ _ _ _)
      | (with_reducible exact impl_childPlaces.mono _ _ _)
      | (with_reducible exact impl_listCode.mono _ _ _ _ _ _)
      | (with_reducible exact impl_regionSize.mono _ _ _)
      | (with_reducible exact LeO.refl _)
      | (with_reducible exact LeO.none _)
      | (with_reducible refine LeO.ite ?_ ?_)
      | (with_reducible refine LeO.bind ?_ (fun _ => ?_))
      | exact ih0 _ _ _ _
      | exact ih1 _ _ _ _ _ _
      | exact ih2 _ _ _ _ _ _ _ _
      | exact impl_childPlaces.mono _ _ _
      | exact impl_listCode.mono _ _ _ _ _ _
      | exact impl_regionSize.mono _ _ _
      | exact LeO.none _
      | refine LeO.ite ?_ ?_
      | refine LeO.bind ?_ (fun _ => ?_)
    · intro y0 y1 y2 y3 y4 y5
      unfold impl_KeepsRule.j1
      repeat' first
      | (with_reducible exact ih0 _ _ _ _)
      | (with_reducible exact ih1 _ _ _ _ _ _)
      | (with_reducible exact ih2 _ _ _ _ _ _ _ _)
      | (with_reducible exact impl_childPlaces.mono _ _ _)
      | (with_reducible exact impl_listCode.mono _ _ _ _ _ _)
      | (with_reducible exact impl_regionSize.mono _ _ _)
      | (with_reducible exact LeO.refl _)
      | (with_reducible exact LeO.none _)
      | (with_reducible refine LeO.ite ?_ ?_)
      | (with_reducible refine LeO.bind ?_ (fun _ => ?_))
      | exact ih0 _ _ _ _
      | exact ih1 _ _ _ _ _ _
      | exact ih2 _ _ _ _ _ _ _ _
      | exact impl_childPlaces.mono _ _ _
      | exact impl_listCode.mono _ _ _ _ _ _
      | exact impl_regionSize.mono _ _ _
      | exact LeO.none _
      | refine LeO.ite ?_ ?_
      | refine LeO.bind ?_ (fun _ => ?_)
    · intro y0 y1 y2 y3 y4 y5 y6 y7
      unfold impl_KeepsRule.l1
      repeat' first
      | (with_reducible exact ih0 _ _ _ _)
      | (with_reducible exact ih1 _ _ _ _ _ _)
      | (with_reducible exact ih2 _ _ _ _ _ _ _ _)
      | (with_reducible exact impl_childPlaces.mono _ _ _)
      | (with_reducible exact impl_listCode.mono _ _ _ _ _ _)
      | (with_reducible exact impl_regionSize.mono _ _ _)
      | (with_reducible exact LeO.refl _)
      | (with_reducible exact LeO.none _)
      | (with_reducible refine LeO.ite ?_ ?_)
      | (with_reducible refine LeO.bind ?_ (fun _ => ?_))
      | exact ih0 _ _ _ _
      | exact ih1 _ _ _ _ _ _
      | exact ih2 _ _ _ _ _ _ _ _
      | exact impl_childPlaces.mono _ _ _
      | exact impl_listCode.mono _ _ _ _ _ _
      | exact impl_regionSize.mono _ _ _
      | exact LeO.none _
      | refine LeO.ite ?_ ?_
      | refine LeO.bind ?_ (fun _ => ?_)
theorem impl_KeepsRule.mono : ∀ a0 a1 a2 k, LeO (impl_KeepsRule.f k a0 a1 a2) (impl_KeepsRule.f (k + 1) a0 a1 a2) := by
  intro a0 a1 a2 k
  obtain ⟨ih0, ih1, ih2⟩ := impl_KeepsRule.mono_l k
  unfold impl_KeepsRule.f
  repeat' first
      | (with_reducible exact ih0 _ _ _ _)
      | (with_reducible exact ih1 _ _ _ _ _ _)
      | (with_reducible exact ih2 _ _ _ _ _ _ _ _)
      | (with_reducible exact impl_childPlaces.mono _ _ _)
      | (with_reducible exact impl_listCode.mono _ _ _ _ _ _)
      | (with_reducible exact impl_regionSize.mono _ _ _)
      | (with_reducible exact LeO.refl _)
      | (with_reducible exact LeO.none _)
      | (with_reducible refine LeO.ite ?_ ?_)
      | (with_reducible refine LeO.bind ?_ (fun _ => ?_))
      | exact ih0 _ _ _ _
      | exact ih1 _ _ _ _ _ _
      | exact ih2 _ _ _ _ _ _ _ _
      | exact impl_childPlaces.mono _ _ _
      | exact impl_listCode.mono _ _ _ _ _ _
      | exact impl_regionSize.mono _ _ _
      | exact LeO.none _
      | refine LeO.ite ?_ ?_
      | refine LeO.bind ?_ (fun _ => ?_)
set_option maxHeartbeats 8000000 in
set_option maxRecDepth 100000 in
theorem impl_KeepsRule.calls (k : Nat) (a0 : Int) (a1 : Int) (A2 : Option Addr) (c2 : Nat) (l2 : List Int) (r1 : Bool) (r2 : Int) (w : World) (hr2 : Kd.C (Kd.int .i64) w A2 l2.length l2) (hc2 : l2.length ≤ c2) (h : impl_KeepsRule.f k a0 a1 l2 = some (r1, r2)) :
    Calls Try.prog 34 #[.int .i64 a0, .int .i64 a1, .slice A2 l2.length c2] w fun e w' => e = .returned (.tuple #[.bool r1, .int .i64 r2]) ∧ Below w.heap.size w w' := by
  have HR2 := Aside0.mk hr2
  have HC2 := Aside0.mk hc2
  clear hr2 hc2
  have HB := Aside0.mk (Below.refl w.heap.size w)
  have H : ((impl_listCode.f k a0 a1 0 l2 1).bind fun t857 => (if t857 = 0 then (if a1 = 0 then (some (true, 0)) else ((impl_regionSize.f k a0 (wrap64 (a1 - 1))).bind fun t858 => (impl_KeepsRule.l0 k a0 l2 t858 0))) else (some (false, t857)))) = some (r1, r2) := h
  clear h
  replace H := Option.bind_eq_some_iff.mp H
  obtain ⟨t857, A40, H⟩ := H
  replace H : (if t857 = 0 then (if a1 = 0 then (some (true, 0)) else ((impl_regionSize.f k a0 (wrap64 (a1 - 1))).bind fun t858 => (impl_KeepsRule.l0 k a0 l2 t858 0))) else (some (false, t857))) = some (r1, r2) := H
  have A4 := Aside0.mk A40
  clear A40
  by_cases c5 : t857 = 0
  · rw [if_pos c5] at H
    have c5b0 : (t857 == 0) = true := beq_iff_eq.mpr c5
    have c5b1 : (t857 != 0) = false := bne_eq_false_iff_eq.mpr c5
    clear c5
    by_cases c6 : a1 = 0
    · rw [if_pos c6] at H
      have c6b0 : (a1 == 0) = true := beq_iff_eq.mpr c6
      have c6b1 : (a1 != 0) = false := bne_eq_false_iff_eq.mpr c6
      clear c6
      simp only [Option.some.injEq, Prod.mk.injEq] at H
      obtain ⟨rfl, rfl⟩ := H
      go_enter Try.func34, Try.ntmps34
      go_wp2_with (first | ((with_reducible refine gate_callee (f := 93) rfl ?_); refine goesL_ (some 16) rfl rfl Try.func93 (by kernel_rfl) rfl #[.int .i64 a0, .int .i64 a1, .int .i64 0, .slice A2 l2.length c2, .int .i64 1] rfl (by (try simp only [List.map_toArray, List.map_cons, List.map_nil]); first | done | rfl | (simp only [List.length_drop, List.length_take]; rfl)) ?_; (with_reducible refine (impl_listCode.calls k a0 a1 0 _ _ l2 1 t857 _ ?side1 ?side2 A4.out).mono ?_); (case side1 => repeat (first | exact HR2.out | (with_reducible refine Kd.C_alloc ?_ _) | (with_reducible refine Kd.C_drewN ?_ _) | (with_reducible refine Kd.C_drew ?_))); (case side2 => exact HC2.out); rintro e w' ⟨rfl, ⟨nd, rfl⟩⟩; refine ⟨_, rfl, ?_⟩))
      go_ret2
      exact ⟨by first | rfl | (simp [errW_none, errW_some] <;> rfl) | (simp [*, errW_none, errW_some] <;> rfl), blA⟩
    · rw [if_neg c6] at H
      have c6b0 : (a1 == 0) = false := beq_eq_false_iff_ne.mpr c6
      have c6b1 : (a1 != 0) = true := bne_iff_ne.mpr c6
      replace H := Option.bind_eq_some_iff.mp H
      obtain ⟨t858, A70, H⟩ := H
      replace H : (impl_KeepsRule.l0 k a0 l2 t858 0) = some (r1, r2) := H
      have A7 := Aside0.mk A70
      clear A70
      have H' := Aside0.mk H
      clear H
      go_enter Try.func34, Try.ntmps34
      go_wp2_with (first | ((with_reducible refine gate_callee (f := 93) rfl ?_); refine goesL_ (some 16) rfl rfl Try.func93 (by kernel_rfl) rfl #[.int .i64 a0, .int .i64 a1, .int .i64 0, .slice A2 l2.length c2, .int .i64 1] rfl (by (try simp only [List.map_toArray, List.map_cons, List.map_nil]); first | done | rfl | (simp only [List.length_drop, List.length_take]; rfl)) ?_; (with_reducible refine (impl_listCode.calls k a0 a1 0 _ _ l2 1 t857 _ ?side1 ?side2 A4.out).mono ?_); (case side1 => repeat (first | exact HR2.out | (with_reducible refine Kd.C_alloc ?_ _) | (with_reducible refine Kd.C_drewN ?_ _) | (with_reducible refine Kd.C_drew ?_))); (case side2 => exact HC2.out); rintro e w' ⟨rfl, ⟨nd, rfl⟩⟩; refine ⟨_, rfl, ?_⟩) | ((with_reducible refine gate_callee (f := 86) rfl ?_); refine goesL_ (some 25) rfl rfl Try.func86 (by kernel_rfl) rfl #[.int .i64 a0, .int .i64 (wrap64 (a1 - 1))] rfl (by (try simp only [List.map_toArray, List.map_cons, List.map_nil]); first | done | rfl | (simp only [List.length_drop, List.length_take]; rfl)) ?_; (with_reducible refine (impl_regionSize.calls k a0 (wrap64 (a1 - 1)) t858 _ A7.out).mono ?_); rintro e w' ⟨rfl, ⟨nd, rfl⟩⟩; refine ⟨_, rfl, ?_⟩))
      go_loopg [26] k (fun kq v26 w' => ∃ (x26_1 : Int), v26 = .int .i64 x26_1 ∧ Aside0 (impl_KeepsRule.l0 kq a0 l2 t858 x26_1 = some (r1, r2)) ∧ Aside0 (kq ≤ k) ∧ Aside0 (Below w.heap.size w w'))
      case atStart => exact ⟨(0), (by first | rfl | (simp; done) | (simp [*]; done)), H', ⟨Nat.le_refl _⟩, ⟨blA⟩⟩
      case round =>
        clear H'
        try clear c2
        try clear p2
        try clear c3
        try clear c5
        try clear c5b0
        try clear c5b1
        try clear c6
        try clear c6b0
        try clear c6b1
        try clear p6
        obtain ⟨x26_1, rfl, HA, HK1, HB⟩ := hrel
        cases gk with
        | zero => exact absurd HA.out (by simp [impl_KeepsRule.l0])
        | succ k1 =>
          have H := HA.out
          clear HA
          simp only [impl_KeepsRule.l0] at H
          by_cases c8 : x26_1 < t858
          · rw [if_pos c8] at H
            have c8b0 : decide (x26_1 < t858) = true := decide_eq_true c8
            clear c8
            have HC9 := Aside0.mk H
            clear H
            go_upto_if 30 with (fail)
            go_cut [10] (fun v10 wc => ∃ (kq : Nat) (x10_8 : Int), v10 = .int .i64 x10_8 ∧ Aside0 (impl_KeepsRule.j1 kq a0 l2 x26_1 x10_8 t858 x26_1 = some (r1, r2)) ∧ Aside0 (kq ≤ k1) ∧ Aside0 (Below w.heap.size w wc))
            case first =>
              have H := HC9.out
              clear HC9
              by_cases c10 : x26_1 > 0
              · rw [if_pos c10] at H
                have c10b0 : decide (0 < x26_1) = true := decide_eq_true c10
                clear c10
                (first | rw [c10b0] | (simp only [i64_w, i32_w]; rw [c10b0]) | skip)
                obtain ⟨ji11, hji11⟩ : ∃ j_ : Int, (wrap64 (x26_1 - 1)) = j_ := ⟨_, rfl⟩
                replace H : (if 0 ≤ (ji11) then (if (ji11) < (l2.length : Int) then (impl_KeepsRule.j1 k1 a0 l2 x26_1 (wrap64 (-(rd l2 (ji11)))) t858 x26_1) else (none)) else (none)) = some (r1, r2) := by first | (rw [hji11] at H; exact H) | (simp only [hji11] at H ⊢; exact H)
                have hji11w : (IntKind.i64.wrap (x26_1 - 1)) = ji11 := (i64_w _).trans hji11
                by_cases c12 : 0 ≤ (ji11)
                · rw [if_pos c12] at H
                  have c12b0 : decide (0 ≤ (ji11)) = true := decide_eq_true c12
                  clear c12
                  by_cases c13 : (ji11) < (l2.length : Int)
                  · rw [if_pos c13] at H
                    have c13b0 : decide ((ji11) < (l2.length : Int)) = true := decide_eq_true c13
                    clear c13
                    have H' := Aside0.mk H
                    clear H
                    have p859 : 0 ≤ ((ji11) : Int) := of_decide_eq_true (by first | (with_reducible assumption) | assumption)
                    have q859 : (ji11) < (l2.length : Int) := of_decide_eq_true (by first | (with_reducible assumption) | assumption)
                    obtain ⟨ad859, e859, hx859_0⟩ := Kd.at_int HR2.out (ji11) p859 q859
                    cases e859
                    replace hx859_0 := (HB.out.cell (World.block_lt_of_cell? w _ hx859_0)).trans hx859_0
                    replace p859 := eq_true p859
                    replace q859 := eq_true q859
                    go_wp2
                    go_meet
                    case rel => exact ⟨_, (wrap64 (-(rd l2 (ji11)))), (by first | rfl | (simp; done) | (simp only [← hji11] <;> (first | rfl | simp)) | (simp [*]; done)), H', ⟨by have := HK1.out; first | omega | exact Nat.le_refl _⟩, ⟨blA⟩⟩
                  · rw [if_neg c13] at H
                    exact absurd H (by simp)
                · rw [if_neg c12] at H
                  exact absurd H (by simp)
              · rw [if_neg c10] at H
                have c10b0 : decide (0 < x26_1) = false := decide_eq_false c10
                clear c10
                (first | rw [c10b0] | (simp only [i64_w, i32_w]; rw [c10b0]) | skip)
                have H' := Aside0.mk H
                clear H
                go_wp2
                go_meet
                case rel => exact ⟨_, (0), (by first | rfl | (simp; done) | (simp [*]; done)), H', ⟨by have := HK1.out; first | omega | exact Nat.le_refl _⟩, ⟨blA⟩⟩
            case rest =>
              clear HC9
              try clear c1
              try clear c2
              try clear p2
              try clear c3
              try clear c5
              try clear c5b0
              try clear c5b1
              try clear c6
              try clear c6b0
              try clear c6b1
              try clear p6
              try clear c8
              try clear c8b0
              try clear p8
              try clear q8
              try clear hx8
              try clear c9
              try clear c10
              try clear c10b0
              try clear c12
              try clear c12b0
              try clear c13
              try clear c13b0
              try clear hx859_0
              try clear p2
              try clear p6
              try clear p859
              try clear q859
              obtain ⟨kq, x10_8, rfl, HA, HJ8, HB⟩ := hcut
              cases kq with
              | zero => exact absurd HA.out (by simp [impl_KeepsRule.j1])
              | succ kj8 =>
                have H := HA.out
                clear HA
                simp only [impl_KeepsRule.j1] at H
                replace H := Option.bind_eq_some_iff.mp H
                obtain ⟨t860, A140, H⟩ := H
                replace H : (impl_KeepsRule.l1 kj8 a0 l2 x10_8 t858 x26_1 t860 (t860.length : Int) 0) = some (r1, r2) := H
                have A14 := Aside0.mk A140
                clear A140
                have H' := Aside0.mk H
                clear H
                go_wp2_with (first | ((with_reducible refine gate_callee (f := 94) rfl ?_); refine goesL_ (some 39) rfl rfl Try.func94 (by kernel_rfl) rfl #[.int .i64 a0, .int .i64 x26_1] rfl (by (try simp only [List.map_toArray, List.map_cons, List.map_nil]); first | done | rfl | (simp only [List.length_drop, List.length_take]; rfl)) ?_; (with_reducible refine (impl_childPlaces.calls kj8 a0 x26_1 t860 _ A14.out).mono ?_); rintro e w15 ⟨v861, rfl, ho0, hb⟩; refine ⟨_, rfl, ?_⟩; have n0_ := Aside0.mk (Kd.R_lower ho0 (below_size blA)); have n1_ := Aside0.mk (below_step blA hb); clear HB; have HO862 := n0_; have HB := n1_; clear n0_ n1_; (try clear hb); (try clear hb2); (try clear hk); (try clear hi); (try clear ho0); obtain ⟨Ao16, co16, eo16⟩ := Kd.R_slice HO862.out; subst eo16))
                go_loopg [10, 41] kj8 (fun kq v10 v41 w' => ∃ (x10_3 : Int) (x41_3 : Int), v10 = .int .i64 x10_3 ∧ v41 = .int .i64 x41_3 ∧ Aside0 (impl_KeepsRule.l1 kq a0 l2 x10_3 t858 x26_1 t860 (t860.length : Int) x41_3 = some (r1, r2)) ∧ Aside0 (kq ≤ kj8) ∧ Aside0 (Kd.R (Kd.int .i64) 2 w' w.heap.size (fun _ => True) (.slice Ao16 t860.length co16) t860) ∧ Aside0 (Below w.heap.size w w'))
                case atStart => exact ⟨(x10_8), (0), (by first | rfl | (simp; done) | (simp [*]; done)), (by first | rfl | (simp; done) | (simp [*]; done)), H', ⟨Nat.le_refl _⟩, ⟨by (with_reducible repeat (first | apply Kd.R_alloc | apply Kd.R_drewN | apply Kd.R_drew)); exact HO862.out⟩, ⟨blA⟩⟩
                case round =>
                  clear H'
                  try clear c1
                  try clear c2
                  try clear p2
                  try clear c3
                  try clear c5
                  try clear c5b0
                  try clear c5b1
                  try clear c6
                  try clear c6b0
                  try clear c6b1
                  try clear p6
                  try clear c8
                  try clear c8b0
                  try clear p8
                  try clear q8
                  try clear hx8
                  try clear c9
                  try clear c10
                  try clear c10b0
                  try clear c12
                  try clear c12b0
                  try clear c13
                  try clear c13b0
                  try clear hx859_0
                  try clear p2
                  try clear p6
                  try clear p8
                  try clear p859
                  try clear q8
                  try clear q859
                  obtain ⟨x10_3, x41_3, rfl, rfl, HA, HK3, HO_39, HB⟩ := hrel
                  cases gk with
                  | zero => exact absurd HA.out (by simp [impl_KeepsRule.l1])
                  | succ k3 =>
                    have H := HA.out
                    clear HA
                    simp only [impl_KeepsRule.l1] at H
                    by_cases c17 : x41_3 < (t860.length : Int)
                    · rw [if_pos c17] at H
                      have c17b0 : decide (x41_3 < (t860.length : Int)) = true := decide_eq_true c17
                      clear c17
                      by_cases c18 : 0 ≤ x41_3
                      · rw [if_pos c18] at H
                        have c18b0 : decide (0 ≤ x41_3) = true := decide_eq_true c18
                        clear c18
                        by_cases c19 : x41_3 < (t860.length : Int)
                        · rw [if_pos c19] at H
                          have c19b0 : decide (x41_3 < (t860.length : Int)) = true := decide_eq_true c19
                          clear c19
                          obtain ⟨ji20, hji20⟩ : ∃ j_ : Int, (wrap64 ((rd t860 x41_3) - 1)) = j_ := ⟨_, rfl⟩
                          replace H : (if 0 ≤ (ji20) then (if (ji20) < (l2.length : Int) then (impl_KeepsRule.l1 k3 a0 l2 (wrap64 (x10_3 + (rd l2 (ji20)))) t858 x26_1 t860 (t860.length : Int) (wrap64 (x41_3 + 1))) else (none)) else (none)) = some (r1, r2) := by first | (rw [hji20] at H; exact H) | (simp only [hji20] at H ⊢; exact H)
                          have hji20w : (IntKind.i64.wrap ((rd t860 x41_3) - 1)) = ji20 := (i64_w _).trans hji20
                          by_cases c21 : 0 ≤ (ji20)
                          · rw [if_pos c21] at H
                            have c21b0 : decide (0 ≤ (ji20)) = true := decide_eq_true c21
                            clear c21
                            by_cases c22 : (ji20) < (l2.length : Int)
                            · rw [if_pos c22] at H
                              have c22b0 : decide ((ji20) < (l2.length : Int)) = true := decide_eq_true c22
                              clear c22
                              have H' := Aside0.mk H
                              clear H
                              have p863 : 0 ≤ (x41_3 : Int) := of_decide_eq_true (by first | (with_reducible assumption) | assumption)
                              have q863 : x41_3 < (t860.length : Int) := of_decide_eq_true (by first | (with_reducible assumption) | assumption)
                              obtain ⟨ad863, e863, hx863_0⟩ := Kd.at_int (Kd.R_reads' HO_39.out).2.2 x41_3 p863 q863
                              cases e863
                              replace p863 := eq_true p863
                              replace q863 := eq_true q863
                              have p864 : 0 ≤ ((ji20) : Int) := of_decide_eq_true (by first | (with_reducible assumption) | assumption)
                              have q864 : (ji20) < (l2.length : Int) := of_decide_eq_true (by first | (with_reducible assumption) | assumption)
                              obtain ⟨ad864, e864, hx864_0⟩ := Kd.at_int HR2.out (ji20) p864 q864
                              cases e864
                              replace hx864_0 := (HB.out.cell (World.block_lt_of_cell? w _ hx864_0)).trans hx864_0
                              replace p864 := eq_true p864
                              replace q864 := eq_true q864
                              go_wp2
                              go_roundg k3
                              case measure => have := HK1.out; have := HJ8.out; have := HK3.out; omega
                              case rel => exact ⟨(wrap64 (x10_3 + (rd l2 (ji20)))), (wrap64 (x41_3 + 1)), (by first | rfl | (simp; done) | (simp only [← hji20] <;> (first | rfl | simp)) | (simp [*]; done)), (by first | rfl | (simp; done) | (simp [*]; done)), H', ⟨by have := HK1.out; have := HJ8.out; have := HK3.out; omega⟩, ⟨by (with_reducible repeat (first | apply Kd.R_alloc | apply Kd.R_drewN | apply Kd.R_drew)); exact HO_39.out⟩, ⟨blA⟩⟩
                            · rw [if_neg c22] at H
                              exact absurd H (by simp)
                          · rw [if_neg c21] at H
                            exact absurd H (by simp)
                        · rw [if_neg c19] at H
                          exact absurd H (by simp)
                      · rw [if_neg c18] at H
                        exact absurd H (by simp)
                    · rw [if_neg c17] at H
                      have c17b0 : decide (x41_3 < (t860.length : Int)) = false := decide_eq_false c17
                      clear c17
                      by_cases c23 : x10_3 = 0
                      · rw [if_pos c23] at H
                        have c23b0 : (x10_3 == 0) = true := beq_iff_eq.mpr c23
                        have c23b1 : (x10_3 != 0) = false := bne_eq_false_iff_eq.mpr c23
                        clear c23
                        have H' := Aside0.mk H
                        clear H
                        go_wp2
                        go_roundg k3
                        case measure => have := HK1.out; have := HJ8.out; have := HK3.out; omega
                        case rel => exact ⟨(wrap64 (x26_1 + 1)), (by first | rfl | (simp; done) | (simp [*]; done)), H', ⟨by have := HK1.out; have := HJ8.out; have := HK3.out; omega⟩, ⟨blA⟩⟩
                      · rw [if_neg c23] at H
                        have c23b0 : (x10_3 == 0) = false := beq_eq_false_iff_ne.mpr c23
                        have c23b1 : (x10_3 != 0) = true := bne_iff_ne.mpr c23
                        simp only [Option.some.injEq, Prod.mk.injEq] at H
                        obtain ⟨rfl, rfl⟩ := H
                        go_wp2
                        go_ret2
                        exact ⟨by first | rfl | (simp [errW_none, errW_some] <;> rfl) | (simp [*, errW_none, errW_some] <;> rfl), blA⟩
          · rw [if_neg c8] at H
            have c8b0 : decide (x26_1 < t858) = false := decide_eq_false c8
            clear c8
            simp only [Option.some.injEq, Prod.mk.injEq] at H
            obtain ⟨rfl, rfl⟩ := H
            go_wp2
            go_ret2
            exact ⟨by first | rfl | (simp [errW_none, errW_some] <;> rfl) | (simp [*, errW_none, errW_some] <;> rfl), blA⟩
  · rw [if_neg c5] at H
    have c5b0 : (t857 == 0) = false := beq_eq_false_iff_ne.mpr c5
    have c5b1 : (t857 != 0) = true := bne_iff_ne.mpr c5
    simp only [Option.some.injEq, Prod.mk.injEq] at H
    obtain ⟨rfl, rfl⟩ := H
    go_enter Try.func34, Try.ntmps34
    go_wp2_with (first | ((with_reducible refine gate_callee (f := 93) rfl ?_); refine goesL_ (some 16) rfl rfl Try.func93 (by kernel_rfl) rfl #[.int .i64 a0, .int .i64 a1, .int .i64 0, .slice A2 l2.length c2, .int .i64 1] rfl (by (try simp only [List.map_toArray, List.map_cons, List.map_nil]); first | done | rfl | (simp only [List.length_drop, List.length_take]; rfl)) ?_; (with_reducible refine (impl_listCode.calls k a0 a1 0 _ _ l2 1 t857 _ ?side1 ?side2 A4.out).mono ?_); (case side1 => repeat (first | exact HR2.out | (with_reducible refine Kd.C_alloc ?_ _) | (with_reducible refine Kd.C_drewN ?_ _) | (with_reducible refine Kd.C_drew ?_))); (case side2 => exact HC2.out); rintro e w' ⟨rfl, ⟨nd, rfl⟩⟩; refine ⟨_, rfl, ?_⟩))
    go_ret2
    exact ⟨by first | rfl | (simp [errW_none, errW_some] <;> rfl) | (simp [*, errW_none, errW_some] <;> rfl), blA⟩
end Go.Proofs.Ytfkglijnbgijbaa.PAll
