-- turned for this claim out of the kit's print: the same functions, packed anew
import Derived.Test.YtfkglijnbgijbaaQx
import Derived.Test.YtfkglijnbgijbaaQimplneighbour
import Derived.Test.YtfkglijnbgijbaaQimplparent
namespace Go.Proofs.Ytfkglijnbgijbaa.PAll
open Go.RowKit Go.Proofs.YtfkglijnbgijbaaW.PrintWords Go.Proofs.YtfkglijnbgijbaaW.PrintLast Go.Proofs.YtfkglijnbgijbaaW.PrintMore
attribute [local go_sem] Go.Proofs.Ytfkglijnbgijbaa.Aux.setCell_drewN Go.Proofs.Ytfkglijnbgijbaa.Aux.isSome_setCell Go.Proofs.Ytfkglijnbgijbaa.Aux.max_eight max2_int min2_int max_two min_two max_three min_three max_four min_four   -- for this text's walks alone
set_option linter.unusedVariables false
set_option linter.unusedSimpArgs false
/-! ### impl_isRadius: function 102 -/
def impl_isRadius.f (a0 : Int) : Option (Bool) := if a0 ≥ 0 then (some (decide (a0 ≤ 3))) else (some false)
set_option maxHeartbeats 8000000 in
set_option maxRecDepth 100000 in
theorem impl_isRadius.calls (a0 : Int) (r : Bool) (w : World) (h : impl_isRadius.f a0 = some r) :
    Calls Try.prog 102 #[.int .i64 a0] w fun e w' => e = .returned (.bool r) ∧ Drawn0 w w' := by
  have H : (if a0 ≥ 0 then (some (decide (a0 ≤ 3))) else (some false)) = some r := h
  clear h
  by_cases c2 : a0 ≥ 0
  · rw [if_pos c2] at H
    have c2b0 : decide (0 ≤ a0) = true := decide_eq_true c2
    clear c2
    obtain rfl := Option.some.inj H
    go_enter Try.func102, Try.ntmps102
    go_wp2
    go_ret
    exact ⟨by first | rfl | (simp; done) | (simp [*]; done), by repeat (first | exact Drawn0.refl _ | apply Drawn0.step)⟩
  · rw [if_neg c2] at H
    have c2b0 : decide (0 ≤ a0) = false := decide_eq_false c2
    clear c2
    obtain rfl := Option.some.inj H
    go_enter Try.func102, Try.ntmps102
    go_wp2
    go_ret
    exact ⟨by first | rfl | (simp; done) | (simp [*]; done), by repeat (first | exact Drawn0.refl _ | apply Drawn0.step)⟩
/-! ### impl_Ball_154: function 154 -/
def impl_Ball_154.f (a0 a1 : Int) : Option (List S34) := if 0 ≤ a1 ∧ a1 ≤ 1000000 then some [] else none
theorem impl_Ball_154.cut {w : World} {base n c : Nat} {A : Option Addr} {xs : List S34} (h : Kd.R k34 34 w base (fun _ => True) (.slice A n c) xs) : Kd.R k34 34 w base (fun _ => True) (.slice A 0 c) [] := by
  obtain ⟨_, inner, ho, _⟩ := h
  obtain ⟨A', c', e⟩ := own_slice ho
  injection e with e1 e2 e3
  subst e2
  have := own_take ho (m := 0) (Nat.zero_le _)
  rw [Nat.zero_mul, List.take_zero] at this
  exact ⟨fun _ _ => trivial, [], this, Reps.none _ _⟩
set_option maxHeartbeats 8000000 in
set_option maxRecDepth 100000 in
theorem impl_Ball_154.calls (a0 a1 : Int) (r : List S34) (w : World) (h : impl_Ball_154.f a0 a1 = some r) :
    Calls Try.prog 154 #[.slice none 0 0, .int .i64 a1] w fun e w' => ∃ v0_ : Value, e = .returned (v0_) ∧ Kd.R k34 34 w' w.heap.size (fun _ => True) v0_ r ∧ Below w.heap.size w w' := by
  unfold impl_Ball_154.f at h
  by_cases hb : 0 ≤ a1 ∧ a1 ≤ 1000000
  case neg => rw [if_neg hb] at h; cases h
  rw [if_pos hb] at h
  obtain rfl := Option.some.inj h
  obtain ⟨h0, h1⟩ := hb
  have HB := Aside0.mk (Below.refl w.heap.size w)
  have c0 : decide (a1 < 0) = false := decide_eq_false (by omega)
  have e0 : wrap64 (a1 - 0) = a1 := by unfold wrap64; omega
  obtain ⟨i0, hi0, _, _, _⟩ := info_parts info34
  by_cases z : a1 = 0
  · subst z
    go_enter Try.func154, Try.ntmps154
    go_wp2
    go_ret
    exact ⟨_, by first | rfl | (simp [errW_none, errW_some] <;> rfl), Kd.R_nil _ _ _ _ _, blA⟩
  · have c1 : decide (0 < a1) = true := decide_eq_true (by omega)
    go_enter Try.func154, Try.ntmps154
    go_wp2_with (first | ((with_reducible refine gate_builtin (b := .append) (xs := #[.tmp 20, .tmp 21]) rfl ?_); at_builtin; refine Kd.R_append_zeros k34 (w0 := w) w.heap.size rfl (.tmp 20) (.tmp 21) 56 3 34 (.agg #[(.int .i64 0), (.int .i64 0), (.int .i64 0)]) 24 rfl Try.underlying56 Try.underlying3 info34 rfl (by decide) (by omega) (.slice none 0 0) ([] : List S34) (⟨0, 0, 0⟩ : S34) a1 (fun _ => True) rfl rfl ?aZ ?aF ?aO h0 ?aB ?aS ?aL ?_; (case aZ => exact (k34_mkM _ _ _ (⟨0, 0, 0⟩ : S34))); (case aF => exact (fun _ _ => trivial)); (case aO => exact Kd.R_nil _ _ _ _ _); (case aB => exact blA); (case aS => exact (below_size blA)); (case aL => simp only [List.length_nil]; omega); intro v1 w1 ho hb hg hat; obtain ⟨A1, q1, e1⟩ := Kd.R_slice ho; subst e1; have hq := (Kd.R_reads' ho).2.1; have hcut := cut_to (P := Try.prog) 56 34 .i64 Try.underlying56 hi0 A1 _ q1 0 (by omega) (by omega) hq; have hr := impl_Ball_154.cut ho; have n0_ := Aside0.mk hb; have n1_ := Aside0.mk hr; clear HB ho hb hg hat hr hq; have HB := n0_; have HO := n1_; clear n0_ n1_))
    go_ret
    exact ⟨_, by first | rfl | (simp [errW_none, errW_some] <;> rfl), HO.out, blA⟩
/-! ### impl_Ball_143: function 143 -/
mutual
def impl_Ball_143.l0 : Nat → List (List (S34)) → Int → List (List (S34)) → Int → Int → Option ((List (S34)))
  | 0, _, _, _, _, _ => none
  | k + 1, x0, x3, x9, x10, x11 => if x11 < x10 then (if 0 ≤ x11 then (if x11 < (x9.length : Int) then (if (wrap64 (x3 + ((rd_L4 x9 x11).length : Int))) < 0 then (none) else (impl_Ball_143.l0 k x0 (wrap64 (x3 + ((rd_L4 x9 x11).length : Int))) x9 x10 (wrap64 (x11 + 1)))) else (none)) else (none)) else ((impl_Ball_154.f 0 x3).bind fun t1157 => (impl_Ball_143.l1 k t1157 x0 (x0.length : Int) 0))
def impl_Ball_143.l1 : Nat → List (S34) → List (List (S34)) → Int → Int → Option ((List (S34)))
  | 0, _, _, _, _ => none
  | k + 1, x6, x25, x26, x27 => if x27 < x26 then (if 0 ≤ x27 then (if x27 < (x25.length : Int) then (if x6.length + (rd_L4 x25 x27).length < 5864062014805 then (impl_Ball_143.l1 k (x6 ++ (rd_L4 x25 x27)) x25 x26 (wrap64 (x27 + 1))) else (none)) else (none)) else (none)) else (some x6)
end
def impl_Ball_143.f (k : Nat) (l0 : List (List (S34))) : Option ((List (S34))) := impl_Ball_143.l0 k l0 0 l0 (l0.length : Int) 0
theorem impl_Ball_143.mono_l : ∀ k, (∀ y0 y1 y2 y3 y4, LeO (impl_Ball_143.l0 k y0 y1 y2 y3 y4) (impl_Ball_143.l0 (k + 1) y0 y1 y2 y3 y4)) ∧ (∀ y0 y1 y2 y3, LeO (impl_Ball_143.l1 k y0 y1 y2 y3) (impl_Ball_143.l1 (k + 1) y0 y1 y2 y3))
  | 0 => ⟨fun _ _ _ _ _ r h => by simp [impl_Ball_143.l0] at h, fun _ _ _ _ r h => by simp [impl_Ball_143.l1] at h⟩
  | k + 1 => by
    obtain ⟨ih0, ih1⟩ := impl_Ball_143.mono_l k
    refine ⟨?_, ?_⟩
    · intro y0 y1 y2 y3 y4
      unfold impl_Ball_143.l0
      repeat' first
      | (with_reducible exact ih0 _ _ _ _ _)
      | (with_reducible exact ih1 _ _ _ _)
      | (with_reducible exact LeO.refl _)
      | (with_reducible exact LeO.none _)
      | (with_reducible refine LeO.ite ?_ ?_)
      | (with_reducible refine LeO.bind ?_ (fun _ => ?_))
      | exact ih0 _ _ _ _ _
      | exact ih1 _ _ _ _
      | exact LeO.none _
      | refine LeO.ite ?_ ?_
      | refine LeO.bind ?_ (fun _ => ?_)
    · intro y0 y1 y2 y3
      unfold impl_Ball_143.l1
      repeat' first
      | (with_reducible exact ih0 _ _ _ _ _)
      | (with_reducible exact ih1 _ _ _ _)
      | (with_reducible exact LeO.refl _)
      | (with_reducible exact LeO.none _)
      | (with_reducible refine LeO.ite ?_ ?_)
      | (with_reducible refine LeO.bind ?_ (fun _ => ?_))
      | exact ih0 _ _ _ _ _
      | exact ih1 _ _ _ _
      | exact LeO.none _
      | refine LeO.ite ?_ ?_
      | refine LeO.bind ?_ (fun _ => ?_)
theorem impl_Ball_143.mono : ∀ a0 k, LeO (impl_Ball_143.f k a0) (impl_Ball_143.f (k + 1) a0) := by
  intro a0 k
  obtain ⟨ih0, ih1⟩ := impl_Ball_143.mono_l k
  unfold impl_Ball_143.f
  repeat' first
      | (with_reducible exact ih0 _ _ _ _ _)
      | (with_reducible exact ih1 _ _ _ _)
      | (with_reducible exact LeO.refl _)
      | (with_reducible exact LeO.none _)
      | (with_reducible refine LeO.ite ?_ ?_)
      | (with_reducible refine LeO.bind ?_ (fun _ => ?_))
      | exact ih0 _ _ _ _ _
      | exact ih1 _ _ _ _
      | exact LeO.none _
      | refine LeO.ite ?_ ?_
      | refine LeO.bind ?_ (fun _ => ?_)
set_option maxHeartbeats 8000000 in
set_option maxRecDepth 100000 in
theorem impl_Ball_143.calls (k : Nat) (A0 : Option Addr) (c0 : Nat) (l0 : List (List (S34))) (r : List (S34)) (w : World) (hr0 : Kd.C (Kd.slice 34 k34) w A0 l0.length l0) (hc0 : l0.length ≤ c0) (h : impl_Ball_143.f k l0 = some r) :
    Calls Try.prog 143 #[.slice A0 l0.length c0] w fun e w' => ∃ v0_ : Value, e = .returned (v0_) ∧ Kd.R k34 34 w' w.heap.size (fun _ => True) v0_ r ∧ Below w.heap.size w w' := by
  have HR0 := Aside0.mk hr0
  have HC0 := Aside0.mk hc0
  clear hr0 hc0
  have HB := Aside0.mk (Below.refl w.heap.size w)
  have H : (impl_Ball_143.l0 k l0 0 l0 (l0.length : Int) 0) = some r := h
  clear h
  have H' := Aside0.mk H
  clear H
  go_enter Try.func143, Try.ntmps143
  go_wp2
  go_loopg [3, 11] k (fun kq v3 v11 w' => ∃ (x3_1 : Int) (x11_1 : Int), v3 = .int .i64 x3_1 ∧ v11 = .int .i64 x11_1 ∧ Aside0 (impl_Ball_143.l0 kq l0 x3_1 l0 (l0.length : Int) x11_1 = some r) ∧ Aside0 (kq ≤ k) ∧ Aside0 (Below w.heap.size w w'))
  case atStart => exact ⟨(0), (0), (by first | rfl | (simp; done) | (simp [*]; done)), (by first | rfl | (simp; done) | (simp [*]; done)), H', ⟨Nat.le_refl _⟩, ⟨blA⟩⟩
  case round =>
    clear H'
    try clear c1
    obtain ⟨x3_1, x11_1, rfl, rfl, HA, HK1, HB⟩ := hrel
    cases gk with
    | zero => exact absurd HA.out (by simp [impl_Ball_143.l0])
    | succ k1 =>
      have H := HA.out
      clear HA
      simp only [impl_Ball_143.l0] at H
      by_cases c2 : x11_1 < (l0.length : Int)
      · rw [if_pos c2] at H
        have c2b0 : decide (x11_1 < (l0.length : Int)) = true := decide_eq_true c2
        clear c2
        by_cases c3 : 0 ≤ x11_1
        · rw [if_pos c3] at H
          have c3b0 : decide (0 ≤ x11_1) = true := decide_eq_true c3
          clear c3
          by_cases c4 : x11_1 < (l0.length : Int)
          · rw [if_pos c4] at H
            have c4b0 : decide (x11_1 < (l0.length : Int)) = true := decide_eq_true c4
            clear c4
            by_cases c5 : (wrap64 (x3_1 + ((rd_L4 l0 x11_1).length : Int))) < 0
            · rw [if_pos c5] at H
              exact absurd H (by simp)
            · rw [if_neg c5] at H
              have c5b0 : decide ((wrap64 (x3_1 + ((rd_L4 l0 x11_1).length : Int))) < 0) = false := decide_eq_false c5
              clear c5
              have H' := Aside0.mk H
              clear H
              have p1156 : 0 ≤ (x11_1 : Int) := of_decide_eq_true (by first | (with_reducible assumption) | assumption)
              have q1156 : x11_1 < (l0.length : Int) := of_decide_eq_true (by first | (with_reducible assumption) | assumption)
              obtain ⟨ad1156, A1156_0, c1156_0, e1156, hx1156_0, hl1156_0, hi1156_0⟩ := at_L4 HR0.out x11_1 p1156 q1156
              cases e1156
              replace hx1156_0 := (HB.out.cell (World.block_lt_of_cell? w _ hx1156_0)).trans hx1156_0
              have HR1156_0 := Aside0.mk hi1156_0
              have HC1156_0 := Aside0.mk hl1156_0
              clear hi1156_0 hl1156_0
              replace p1156 := eq_true p1156
              replace q1156 := eq_true q1156
              go_wp2
              go_roundg k1
              case measure => have := HK1.out; omega
              case rel => exact ⟨(wrap64 (x3_1 + ((rd_L4 l0 x11_1).length : Int))), (wrap64 (x11_1 + 1)), (by first | rfl | (simp; done) | (simp [*]; done)), (by first | rfl | (simp; done) | (simp [*]; done)), H', ⟨by have := HK1.out; omega⟩, ⟨blA⟩⟩
          · rw [if_neg c4] at H
            exact absurd H (by simp)
        · rw [if_neg c3] at H
          exact absurd H (by simp)
      · rw [if_neg c2] at H
        have c2b0 : decide (x11_1 < (l0.length : Int)) = false := decide_eq_false c2
        clear c2
        replace H := Option.bind_eq_some_iff.mp H
        obtain ⟨t1157, A60, H⟩ := H
        replace H : (impl_Ball_143.l1 k1 t1157 l0 (l0.length : Int) 0) = some r := H
        have A6 := Aside0.mk A60
        clear A60
        have H' := Aside0.mk H
        clear H
        go_wp2_with (first | ((with_reducible refine gate_callee (f := 154) rfl ?_); refine goesL_ (some 24) rfl rfl Try.func154 (by kernel_rfl) rfl #[.slice none 0 0, .int .i64 x3_1] rfl (by (try simp only [List.map_toArray, List.map_cons, List.map_nil]); first | done | rfl | (simp only [List.length_drop, List.length_take]; rfl)) ?_; (with_reducible refine (impl_Ball_154.calls 0 x3_1 t1157 _ A6.out).mono ?_); rintro e w7 ⟨v1158, rfl, ho0, hb⟩; refine ⟨_, rfl, ?_⟩; have n0_ := Aside0.mk (Kd.R_lower ho0 (below_size blA)); have n1_ := Aside0.mk (below_step blA hb); clear HB; have HO1159 := n0_; have HB := n1_; clear n0_ n1_; (try clear hb); (try clear hb2); (try clear hk); (try clear hi); (try clear ho0)))
        go_loopg [6, 27] k1 (fun kq v6 v27 w' => ∃ (x6_2 : List (S34)) (x27_2 : Int), v27 = .int .i64 x27_2 ∧ Aside0 (impl_Ball_143.l1 kq x6_2 l0 (l0.length : Int) x27_2 = some r) ∧ Aside0 (kq ≤ k1) ∧ Aside0 (Kd.R k34 34 w' w.heap.size (fun _ => True) v6 x6_2) ∧ Aside0 (Below w.heap.size w w'))
        case atStart => exact ⟨(t1157), (0), (by first | rfl | (simp; done) | (simp [*]; done)), H', ⟨Nat.le_refl _⟩, ⟨by (with_reducible repeat (first | apply Kd.R_alloc | apply Kd.R_drewN | apply Kd.R_drew)); exact HO1159.out⟩, ⟨blA⟩⟩
        case round =>
          clear H'
          try clear c1
          try clear p1
          try clear q1
          try clear hx1
          try clear c2
          try clear c2b0
          try clear p2
          try clear c3
          try clear c3b0
          try clear c4
          try clear c4b0
          try clear c5
          try clear c5b0
          try clear p6
          try clear hx1156_0
          try clear p1156
          try clear q1156
          obtain ⟨x6_2, x27_2, rfl, HA, HK2, HO_6, HB⟩ := hrel
          cases gk with
          | zero => exact absurd HA.out (by simp [impl_Ball_143.l1])
          | succ k2 =>
            have H := HA.out
            clear HA
            simp only [impl_Ball_143.l1] at H
            by_cases c8 : x27_2 < (l0.length : Int)
            · rw [if_pos c8] at H
              have c8b0 : decide (x27_2 < (l0.length : Int)) = true := decide_eq_true c8
              clear c8
              by_cases c9 : 0 ≤ x27_2
              · rw [if_pos c9] at H
                have c9b0 : decide (0 ≤ x27_2) = true := decide_eq_true c9
                clear c9
                by_cases c10 : x27_2 < (l0.length : Int)
                · rw [if_pos c10] at H
                  have c10b0 : decide (x27_2 < (l0.length : Int)) = true := decide_eq_true c10
                  clear c10
                  by_cases c11 : x6_2.length + (rd_L4 l0 x27_2).length < 5864062014805
                  · rw [if_pos c11] at H
                    have LMc11 := Aside0.mk c11
                    clear c11
                    obtain ⟨y1161, hy1161⟩ : ∃ y_ : List (S34), y_ = (x6_2 ++ (rd_L4 l0 x27_2)) := ⟨_, rfl⟩
                    replace H : (impl_Ball_143.l1 k2 y1161 l0 (l0.length : Int) (wrap64 (x27_2 + 1))) = some r := by first | (rw [hy1161]; with_reducible exact H) | (have H2_ := (Option.bind_some _ _).symm.trans H; rw [hy1161]; with_reducible exact H2_) | (have H2_ := (Option.bind_some _ _).symm.trans H; with_reducible exact H2_) | with_reducible exact H | (rw [hy1161]; exact H) | exact H
                    have Ny1161 := Aside0.mk hy1161
                    clear hy1161
                    have H' := Aside0.mk H
                    clear H
                    have p1160 : 0 ≤ (x27_2 : Int) := of_decide_eq_true (by first | (with_reducible assumption) | assumption)
                    have q1160 : x27_2 < (l0.length : Int) := of_decide_eq_true (by first | (with_reducible assumption) | assumption)
                    obtain ⟨ad1160, A1160_0, c1160_0, e1160, hx1160_0, hl1160_0, hi1160_0⟩ := at_L4 HR0.out x27_2 p1160 q1160
                    cases e1160
                    replace hx1160_0 := (HB.out.cell (World.block_lt_of_cell? w _ hx1160_0)).trans hx1160_0
                    have HR1160_0 := Aside0.mk hi1160_0
                    have HC1160_0 := Aside0.mk hl1160_0
                    clear hi1160_0 hl1160_0
                    replace p1160 := eq_true p1160
                    replace q1160 := eq_true q1160
                    go_wp2_with (first | ((with_reducible refine gate_builtin (b := .append) (xs := #[.tmp 31, .tmp 32]) rfl ?_); at_builtin; refine Kd.R_append_rows k34 (w0 := w) w.heap.size rfl (.tmp 31) (.tmp 32) 56 34 (.agg #[(.int .i64 0), (.int .i64 0), (.int .i64 0)]) 24 rfl Try.underlying56 info34 rfl (by decide) (by omega) u6 x6_2 (rd_L4 l0 x27_2) _ _ _ (fun _ => True) (fun _ => False) rfl rfl ?aO ?aR (fun _ _ h => h) (fun _ h => h.elim) ?aF ?aB ?aS ?aL ?_; (case aR => repeat (first | exact (Kd.C_below HR1160_0.out HB.out) | (with_reducible refine Kd.C_alloc ?_ _) | (with_reducible refine Kd.C_drewN ?_ _) | (with_reducible refine Kd.C_drew ?_))); (case aB => exact blA); (case aF => exact (fun _ _ => trivial)); (case aO => exact (by (with_reducible repeat (first | apply Kd.R_alloc | apply Kd.R_drewN | apply Kd.R_drew)); exact HO_6.out)); (case aS => exact (below_size blA)); (case aL => have := LMc11.out; omega); intro v1162 w12 ho hb hg hat; rw [← Ny1161.out] at ho; have n0_ := Aside0.mk (hb); have n1_ := Aside0.mk (ho); clear HB; clear HO_6; have HB := n0_; have HO1163 := n1_; clear n0_ n1_; clear ho hb hg hat))
                    go_roundg k2
                    case measure => have := HK1.out; have := HK2.out; omega
                    case rel => exact ⟨(y1161), (wrap64 (x27_2 + 1)), (by first | rfl | (simp; done) | (simp [*]; done)), H', ⟨by have := HK1.out; have := HK2.out; omega⟩, ⟨by (with_reducible repeat (first | apply Kd.R_alloc | apply Kd.R_drewN | apply Kd.R_drew)); exact HO1163.out⟩, ⟨blA⟩⟩
                  · rw [if_neg c11] at H
                    exact absurd H (by simp)
                · rw [if_neg c10] at H
                  exact absurd H (by simp)
              · rw [if_neg c9] at H
                exact absurd H (by simp)
            · rw [if_neg c8] at H
              have c8b0 : decide (x27_2 < (l0.length : Int)) = false := decide_eq_false c8
              clear c8
              obtain rfl := Option.some.inj H
              go_wp2
              go_ret
              exact ⟨_, by first | rfl | (simp [errW_none, errW_some] <;> rfl) | (simp [*, errW_none, errW_some] <;> rfl), by (with_reducible repeat (first | apply Kd.R_alloc | apply Kd.R_drewN | apply Kd.R_drew)); exact HO_6.out, blA⟩
/-! ### spec_l02Children: function 157 -/
def spec_l02Children.l0 : Nat → Int → List (S34) → Int → Int → Int → Int → Option ((List (S34)) × Bool)
  | 0, _, _, _, _, _, _ => none
  | k + 1, x0, x6, x7, x1053000, x1053001, x1053002 => if x7 < x0 then ((spec_l01Child.f k x0 x1053000 x1053001 x1053002 x7).bind fun bt1056 => (if bt1056.2.2.2 = true then (if x6.length < 5864062014805 then (spec_l02Children.l0 k x0 (x6 ++ [(⟨bt1056.1, bt1056.2.1, bt1056.2.2.1⟩ : S34)]) (wrap64 (x7 + 1)) x1053000 x1053001 x1053002) else (none)) else (some (([] : List (S34)), false)))) else (some (x6, true))
def spec_l02Children.f (k : Nat) (a0 : Int) (a1_0 : Int) (a1_1 : Int) (a1_2 : Int) : Option ((List (S34)) × Bool) := spec_l02Children.l0 k a0 (([] : List (S34))) 0 a1_0 a1_1 a1_2
theorem spec_l02Children.mono_l : ∀ k, (∀ y0 y1 y2 y3 y4 y5, LeO (spec_l02Children.l0 k y0 y1 y2 y3 y4 y5) (spec_l02Children.l0 (k + 1) y0 y1 y2 y3 y4 y5))
  | 0 => fun _ _ _ _ _ _ r h => by simp [spec_l02Children.l0] at h
  | k + 1 => by
    have ih0 := spec_l02Children.mono_l k
    · intro y0 y1 y2 y3 y4 y5
      unfold spec_l02Children.l0
      repeat' first
      | (with_reducible exact ih0 _ _ _ _ _ _)
      | (with_reducible exact spec_l01Child.mono _ _ _ _ _ _)
      | (with_reducible exact LeO.refl _)
      | (with_reducible exact LeO.none _)
      | (with_reducible refine LeO.ite ?_ ?_)
      | (with_reducible refine LeO.bind ?_ (fun _ => ?_))
      | exact ih0 _ _ _ _ _ _
      | exact spec_l01Child.mono _ _ _ _ _ _
      | exact LeO.none _
      | refine LeO.ite ?_ ?_
      | refine LeO.bind ?_ (fun _ => ?_)
theorem spec_l02Children.mono : ∀ a0 a1 a2 a3 k, LeO (spec_l02Children.f k a0 a1 a2 a3) (spec_l02Children.f (k + 1) a0 a1 a2 a3) := by
  intro a0 a1 a2 a3 k
  have ih0 := spec_l02Children.mono_l k
  unfold spec_l02Children.f
  repeat' first
      | (with_reducible exact ih0 _ _ _ _ _ _)
      | (with_reducible exact spec_l01Child.mono _ _ _ _ _ _)
      | (with_reducible exact LeO.refl _)
      | (with_reducible exact LeO.none _)
      | (with_reducible refine LeO.ite ?_ ?_)
      | (with_reducible refine LeO.bind ?_ (fun _ => ?_))
      | exact ih0 _ _ _ _ _ _
      | exact spec_l01Child.mono _ _ _ _ _ _
      | exact LeO.none _
      | refine LeO.ite ?_ ?_
      | refine LeO.bind ?_ (fun _ => ?_)
set_option maxHeartbeats 8000000 in
set_option maxRecDepth 100000 in
theorem spec_l02Children.calls (k : Nat) (a0 : Int) (a1_0 : Int) (a1_1 : Int) (a1_2 : Int) (r1 : List (S34)) (r2 : Bool) (w : World) (h : spec_l02Children.f k a0 a1_0 a1_1 a1_2 = some (r1, r2)) :
    Calls Try.prog 157 #[.int .i64 a0, .agg #[.int .i64 a1_0, .int .i64 a1_1, .int .i64 a1_2]] w fun e w' => ∃ v0_ : Value, e = .returned (.tuple #[v0_, .bool r2]) ∧ Kd.R k34 34 w' w.heap.size (fun _ => True) v0_ r1 ∧ Below w.heap.size w w' := by
  have hu34 := Try.underlying34
  have HB := Aside0.mk (Below.refl w.heap.size w)
  have H : (spec_l02Children.l0 k a0 (([] : List (S34))) 0 a1_0 a1_1 a1_2) = some (r1, r2) := h
  clear h
  obtain ⟨y1053, hy1053⟩ : ∃ y_ : List (S34), y_ = (([] : List (S34))) := ⟨_, rfl⟩
  replace H : (spec_l02Children.l0 k a0 y1053 0 a1_0 a1_1 a1_2) = some (r1, r2) := by first | (rw [hy1053]; with_reducible exact H) | (have H2_ := (Option.bind_some _ _).symm.trans H; rw [hy1053]; with_reducible exact H2_) | (have H2_ := (Option.bind_some _ _).symm.trans H; with_reducible exact H2_) | with_reducible exact H | (rw [hy1053]; exact H) | exact H
  have Ny1053 := Aside0.mk hy1053
  clear hy1053
  have H' := Aside0.mk H
  clear H
  go_enter Try.func157, Try.ntmps157
  go_wp2_with (first | ((with_reducible refine gate_dst (N := 3) rfl ?_); refine box_event ?hg (N := 3) ?hd (cs := #[.int .i64 a1_0, .int .i64 a1_1, .int .i64 a1_2]) (t := 34) ?hr ?_; (case hd => rfl); (case hg => rfl); (case hr => first | (go_simp; done) | (go_simp; rfl)); intro gb1052 hg w3 hbox hb; have n0_ := Aside0.mk (below_step blA hb); have n1_ := Aside0.mk (hbox); have n2_ := Aside0.mk (szA hg blA); have n3_ := Aside0.mk (szA hg blA); clear HB; have HB := n0_; have BK1052 := n1_; have GW1052 := n2_; have GE1052 := n3_; clear n0_ n1_ n2_ n3_; clear hb hbox hg) | ((with_reducible refine gate_dst (N := 10) rfl ?_); refine Kd.R_lit k34 _ 34 ?hg (N := 10) ?hd (xs := ([] : List (S34))) (inner := []) (ok := fun _ => True) (okp := fun _ => True) ?hr ?hp (fun _ hk => hk) trivial (Below.refl _ _) (Nat.le_refl _) (by simp) ?_; (case hd => rfl); (case hg => rfl); (case hr => first | (go_simp; done) | (go_simp; rfl)); (case hp => exact (Reps.none _ _)); intro v1054 w4 ho5 hb hg_ hnew_; clear hg_ hnew_; (first | rw [← Ny1053.out] at ho5 | (simp only [Int.reduceToNat] at ho5; rw [← Ny1053.out] at ho5)); have n0_ := Aside0.mk (Kd.R_lower (Kd.R_newB ho5 (bkA BK1052)) (below_size blA)); have n1_ := Aside0.mk (blk_below (bkA BK1052) hb); have n2_ := Aside0.mk (below_step blA hb); clear BK1052; clear HB; have HO1055 := n0_; have BK1052 := n1_; have HB := n2_; clear n0_ n1_ n2_; clear hb ho5))
  go_loopg [6, 7] k (fun kq v6 v7 w' => ∃ (x6_1 : List (S34)) (x7_1 : Int), v7 = .int .i64 x7_1 ∧ Aside0 (spec_l02Children.l0 kq a0 x6_1 x7_1 a1_0 a1_1 a1_2 = some (r1, r2)) ∧ Aside0 (kq ≤ k) ∧ Aside0 (Kd.R k34 34 w' w.heap.size (fun k_ => k_ ≠ gb1052) v6 x6_1) ∧ Aside0 (w'.heap[gb1052]? = some (.cells #[.int .i64 a1_0, .int .i64 a1_1, .int .i64 a1_2] 34 (0, 0))) ∧ Aside0 (Below w.heap.size w w'))
  case atStart => exact ⟨(y1053), (0), (by first | rfl | (simp; done) | (simp [*]; done)), H', ⟨Nat.le_refl _⟩, ⟨by (with_reducible repeat (first | apply Kd.R_alloc | apply Kd.R_drewN | apply Kd.R_drew)); exact Kd.R_mono HO1055.out (fun _ hk => hk.2)⟩, ⟨bkA BK1052⟩, ⟨blA⟩⟩
  case round =>
    clear H'
    try clear c1
    try clear p2
    obtain ⟨x6_1, x7_1, rfl, HA, HK1, HO_6, BK1052, HB⟩ := hrel
    cases gk with
    | zero => exact absurd HA.out (by simp [spec_l02Children.l0])
    | succ k1 =>
      have H := HA.out
      clear HA
      simp only [spec_l02Children.l0] at H
      by_cases c6 : x7_1 < a0
      · rw [if_pos c6] at H
        have c6b0 : decide (x7_1 < a0) = true := decide_eq_true c6
        clear c6
        replace H := Option.bind_eq_some_iff.mp H
        obtain ⟨⟨t1056, t1057, t1058, t1059⟩, A70, H⟩ := H
        replace H : (if t1059 = true then (if x6_1.length < 5864062014805 then (spec_l02Children.l0 k1 a0 (x6_1 ++ [(⟨t1056, t1057, t1058⟩ : S34)]) (wrap64 (x7_1 + 1)) a1_0 a1_1 a1_2) else (none)) else (some (([] : List (S34)), false))) = some (r1, r2) := H
        have A7 := Aside0.mk A70
        clear A70
        by_cases c8 : t1059 = true
        · subst c8
          have H1 : (if x6_1.length < 5864062014805 then (spec_l02Children.l0 k1 a0 (x6_1 ++ [(⟨t1056, t1057, t1058⟩ : S34)]) (wrap64 (x7_1 + 1)) a1_0 a1_1 a1_2) else (none)) = some (r1, r2) := by rw [if_pos rfl] at H; exact H
          clear H
          have H := H1
          clear H1
          by_cases c9 : x6_1.length < 5864062014805
          · rw [if_pos c9] at H
            have LMc9 := Aside0.mk c9
            clear c9
            obtain ⟨y1061, hy1061⟩ : ∃ y_ : List (S34), y_ = (x6_1 ++ [(⟨t1056, t1057, t1058⟩ : S34)]) := ⟨_, rfl⟩
            replace H : (spec_l02Children.l0 k1 a0 y1061 (wrap64 (x7_1 + 1)) a1_0 a1_1 a1_2) = some (r1, r2) := by first | (rw [hy1061]; with_reducible exact H) | (have H2_ := (Option.bind_some _ _).symm.trans H; rw [hy1061]; with_reducible exact H2_) | (have H2_ := (Option.bind_some _ _).symm.trans H; with_reducible exact H2_) | with_reducible exact H | (rw [hy1061]; exact H) | exact H
            have Ny1061 := Aside0.mk hy1061
            clear hy1061
            have H' := Aside0.mk H
            clear H
            have hcz10_0 : wr.cell? ⟨gb1052, 0, none⟩ = some (.int .i64 a1_0) := (blk_cell BK1052.out 0).trans rfl
            have hcz10_1 : wr.cell? ⟨gb1052, 1, none⟩ = some (.int .i64 a1_1) := (blk_cell BK1052.out 1).trans rfl
            have hcz10_2 : wr.cell? ⟨gb1052, 2, none⟩ = some (.int .i64 a1_2) := (blk_cell BK1052.out 2).trans rfl
            have hfz10_0 := blk_frozen BK1052.out 0
            have hfz10_1 := blk_frozen BK1052.out 1
            have hfz10_2 := blk_frozen BK1052.out 2
            go_wp2_with (first | ((with_reducible refine gate_callee (f := 124) rfl ?_); refine goesL_ (some 20) rfl rfl Try.func124 (by kernel_rfl) rfl #[.int .i64 a0, .agg #[.int .i64 a1_0, .int .i64 a1_1, .int .i64 a1_2], .int .i64 x7_1] rfl (by (try simp only [List.map_toArray, List.map_cons, List.map_nil]); first | done | rfl | (simp only [List.length_drop, List.length_take]; rfl)) ?_; (with_reducible refine (spec_l01Child.calls k1 a0 a1_0 a1_1 a1_2 x7_1 t1056 t1057 t1058 true _ A7.out).mono ?_); rintro e w11 ⟨rfl, hb⟩; refine ⟨_, rfl, ?_⟩; have n0_ := Aside0.mk (Kd.R_below (by (with_reducible repeat (first | apply Kd.R_alloc | apply Kd.R_drewN | apply Kd.R_drew)); exact HO_6.out) hb); have n1_ := Aside0.mk (blk_below (bkA BK1052) hb); have n2_ := Aside0.mk (below_step blA hb); clear HO_6; clear BK1052; clear HB; have HO_6 := n0_; have BK1052 := n1_; have HB := n2_; clear n0_ n1_ n2_; (try clear hb); (try clear hb2); (try clear hk); (try clear hi)) | ((with_reducible refine gate_dst (N := 8) rfl ?_); refine box_event ?hg (N := 8) ?hd (cs := #[.int .i64 0, .int .i64 0, .int .i64 0]) (t := 34) ?hr ?_; (case hd => rfl); (case hg => rfl); (case hr => first | (go_simp; done) | (go_simp; rfl)); intro gb1060 hg w12 hbox hb; have n0_ := Aside0.mk (Kd.R_below (Kd.R_elderB (by (with_reducible repeat (first | apply Kd.R_alloc | apply Kd.R_drewN | apply Kd.R_drew)); exact HO_6.out) gb1060 (Nat.le_of_eq hg.symm)) hb); have n1_ := Aside0.mk (blk_below (bkA BK1052) hb); have n2_ := Aside0.mk (below_step blA hb); have n3_ := Aside0.mk (hbox); have n4_ := Aside0.mk (szA hg blA); have n5_ := Aside0.mk (szA hg blA); have n6_ := Aside0.mk (neA hg (bkA BK1052)); have n7_ := Aside0.mk (neB hg (bkA BK1052)); clear HO_6; clear BK1052; clear HB; have HO_6 := n0_; have BK1052 := n1_; have HB := n2_; have BK1060 := n3_; have GW1060 := n4_; have GE1060 := n5_; have NB1052_1060 := n6_; have NB1060_1052 := n7_; clear n0_ n1_ n2_ n3_ n4_ n5_ n6_ n7_; clear hb hbox hg; have hnb13 := NB1060_1052.out; have hnc13 := NB1052_1060.out; have hcz14_0 : w12.cell? ⟨gb1060, 0, none⟩ = some (.int .i64 0) := (blk_cell BK1060.out 0).trans rfl; have hcz14_1 : w12.cell? ⟨gb1060, 1, none⟩ = some (.int .i64 0) := (blk_cell BK1060.out 1).trans rfl; have hcz14_2 : w12.cell? ⟨gb1060, 2, none⟩ = some (.int .i64 0) := (blk_cell BK1060.out 2).trans rfl; have hfz14_0 := blk_frozen BK1060.out 0; have hfz14_1 := blk_frozen BK1060.out 1; have hfz14_2 := blk_frozen BK1060.out 2) | ((with_reducible refine gate_builtin (b := .append) (xs := #[.tmp 25, .tmp 27]) rfl ?_); at_builtin; refine Kd.R_append k34 (w0 := w) w.heap.size rfl (.tmp 25) (.tmp 27) 56 34 (.agg #[(.int .i64 0), (.int .i64 0), (.int .i64 0)]) 24 rfl Try.underlying56 info34 rfl (by decide) (by omega) u6 x6_1 (⟨t1056, t1057, t1058⟩ : S34) [.int .i64 t1056, .int .i64 t1057, .int .i64 t1058] (fun k_ => k_ ≠ gb1052 ∧ k_ ≠ gb1060) (fun _ => False) rfl (by first | (go_simp; done) | (go_simp; rfl)) ?aP (fun _ hk => hk.elim) ?aF ?aO ?aB ?aS ?aL ?_; (case aP => exact k34_mkM _ _ _ (⟨t1056, t1057, t1058⟩ : S34)); (case aB => exact blA); (case aF => exact (fun k_ hk => ⟨Kd.freshB (g := gb1052) (o := .cells #[.int .i64 a1_0, .int .i64 a1_1, .int .i64 a1_2] 34 (0, 0)) (by (with_reducible repeat (first | refine blk_drewN ?_ _ | refine blk_drew ?_ | refine blk_alloc ?_ _)); refine blk_far ?_ NB1052_1060.out _; (with_reducible repeat (first | refine blk_drewN ?_ _ | refine blk_drew ?_ | refine blk_alloc ?_ _)); refine blk_far ?_ NB1052_1060.out _; (with_reducible repeat (first | refine blk_drewN ?_ _ | refine blk_drew ?_ | refine blk_alloc ?_ _)); refine blk_far ?_ NB1052_1060.out _; (with_reducible repeat (first | refine blk_drewN ?_ _ | refine blk_drew ?_ | refine blk_alloc ?_ _)); exact BK1052.out) k_ hk, Kd.freshB (g := gb1060) (o := .cells #[.int .i64 t1056, .int .i64 t1057, .int .i64 t1058] 34 (0, 0)) (by (with_reducible repeat (first | refine blk_drewN ?_ _ | refine blk_drew ?_ | refine blk_alloc ?_ _)); refine blk_put (cs := #[.int .i64 t1056, .int .i64 t1057, .int .i64 0]) ?_ 2 _ rfl; (with_reducible repeat (first | refine blk_drewN ?_ _ | refine blk_drew ?_ | refine blk_alloc ?_ _)); refine blk_put (cs := #[.int .i64 t1056, .int .i64 0, .int .i64 0]) ?_ 1 _ rfl; (with_reducible repeat (first | refine blk_drewN ?_ _ | refine blk_drew ?_ | refine blk_alloc ?_ _)); refine blk_put (cs := #[.int .i64 0, .int .i64 0, .int .i64 0]) ?_ 0 _ rfl; (with_reducible repeat (first | refine blk_drewN ?_ _ | refine blk_drew ?_ | refine blk_alloc ?_ _)); exact BK1060.out) k_ hk⟩)); (case aO => exact (by (with_reducible repeat (first | apply Kd.R_alloc | apply Kd.R_drewN | apply Kd.R_drew)); exact Kd.R_mono (Kd.R_far (p := ⟨gb1060, 2, none⟩) (Kd.R_far (p := ⟨gb1060, 1, none⟩) (Kd.R_far (p := ⟨gb1060, 0, none⟩) (Kd.R_mono HO_6.out (fun k_ hk => (⟨hk, hk.2⟩ : _ ∧ k_ ≠ gb1060))) (fun _ hk => hk.2) (.int .i64 t1056)) (fun _ hk => hk.2) (.int .i64 t1057)) (fun _ hk => hk.2) (.int .i64 t1058)) (fun _ hk => ⟨hk.1.1, hk.1.2⟩))); (case aS => exact (below_size blA)); (case aL => have := LMc9.out; omega); intro v1062 w15 ho hb hg hat; rw [← Ny1061.out] at ho; have n0_ := Aside0.mk (blk_grown (g := gb1052) (o := .cells #[.int .i64 a1_0, .int .i64 a1_1, .int .i64 a1_2] 34 (0, 0)) (by (with_reducible repeat (first | refine blk_drewN ?_ _ | refine blk_drew ?_ | refine blk_alloc ?_ _)); refine blk_far ?_ NB1052_1060.out _; (with_reducible repeat (first | refine blk_drewN ?_ _ | refine blk_drew ?_ | refine blk_alloc ?_ _)); refine blk_far ?_ NB1052_1060.out _; (with_reducible repeat (first | refine blk_drewN ?_ _ | refine blk_drew ?_ | refine blk_alloc ?_ _)); refine blk_far ?_ NB1052_1060.out _; (with_reducible repeat (first | refine blk_drewN ?_ _ | refine blk_drew ?_ | refine blk_alloc ?_ _)); exact BK1052.out) hg (Kd.R_away HO_6.out (fun _ hk => hk.1))); have n1_ := Aside0.mk (blk_grown (g := gb1060) (o := .cells #[.int .i64 t1056, .int .i64 t1057, .int .i64 t1058] 34 (0, 0)) (by (with_reducible repeat (first | refine blk_drewN ?_ _ | refine blk_drew ?_ | refine blk_alloc ?_ _)); refine blk_put (cs := #[.int .i64 t1056, .int .i64 t1057, .int .i64 0]) ?_ 2 _ rfl; (with_reducible repeat (first | refine blk_drewN ?_ _ | refine blk_drew ?_ | refine blk_alloc ?_ _)); refine blk_put (cs := #[.int .i64 t1056, .int .i64 0, .int .i64 0]) ?_ 1 _ rfl; (with_reducible repeat (first | refine blk_drewN ?_ _ | refine blk_drew ?_ | refine blk_alloc ?_ _)); refine blk_put (cs := #[.int .i64 0, .int .i64 0, .int .i64 0]) ?_ 0 _ rfl; (with_reducible repeat (first | refine blk_drewN ?_ _ | refine blk_drew ?_ | refine blk_alloc ?_ _)); exact BK1060.out) hg (Kd.R_away HO_6.out (fun _ hk => hk.2))); have n2_ := Aside0.mk (hb); have n3_ := Aside0.mk (ho); clear BK1052; clear BK1060; clear HB; clear HO_6; have BK1052 := n0_; have BK1060 := n1_; have HB := n2_; have HO1063 := n3_; clear n0_ n1_ n2_ n3_; clear ho hb hg hat))
            go_roundg k1
            case measure => have := HK1.out; omega
            case rel => exact ⟨(y1061), (wrap64 (x7_1 + 1)), (by first | rfl | (simp; done) | (simp [*]; done)), H', ⟨by have := HK1.out; omega⟩, ⟨by (with_reducible repeat (first | apply Kd.R_alloc | apply Kd.R_drewN | apply Kd.R_drew)); exact Kd.R_mono HO1063.out (fun _ hk => hk.1)⟩, ⟨bkA BK1052⟩, ⟨blA⟩⟩
          · rw [if_neg c9] at H
            exact absurd H (by simp)
        · replace c8 := Bool.eq_false_iff.mpr c8
          subst c8
          have H1 : (some (([] : List (S34)), false)) = some (r1, r2) := by rw [if_neg (show ¬ (false = true) by decide)] at H; exact H
          clear H
          have H := H1
          clear H1
          simp only [Option.some.injEq, Prod.mk.injEq] at H
          obtain ⟨rfl, rfl⟩ := H
          have hcz16_0 : wr.cell? ⟨gb1052, 0, none⟩ = some (.int .i64 a1_0) := (blk_cell BK1052.out 0).trans rfl
          have hcz16_1 : wr.cell? ⟨gb1052, 1, none⟩ = some (.int .i64 a1_1) := (blk_cell BK1052.out 1).trans rfl
          have hcz16_2 : wr.cell? ⟨gb1052, 2, none⟩ = some (.int .i64 a1_2) := (blk_cell BK1052.out 2).trans rfl
          have hfz16_0 := blk_frozen BK1052.out 0
          have hfz16_1 := blk_frozen BK1052.out 1
          have hfz16_2 := blk_frozen BK1052.out 2
          go_wp2_with (first | ((with_reducible refine gate_callee (f := 124) rfl ?_); refine goesL_ (some 20) rfl rfl Try.func124 (by kernel_rfl) rfl #[.int .i64 a0, .agg #[.int .i64 a1_0, .int .i64 a1_1, .int .i64 a1_2], .int .i64 x7_1] rfl (by (try simp only [List.map_toArray, List.map_cons, List.map_nil]); first | done | rfl | (simp only [List.length_drop, List.length_take]; rfl)) ?_; (with_reducible refine (spec_l01Child.calls k1 a0 a1_0 a1_1 a1_2 x7_1 t1056 t1057 t1058 false _ A7.out).mono ?_); rintro e w17 ⟨rfl, hb⟩; refine ⟨_, rfl, ?_⟩; have n0_ := Aside0.mk (Kd.R_below (by (with_reducible repeat (first | apply Kd.R_alloc | apply Kd.R_drewN | apply Kd.R_drew)); exact HO_6.out) hb); have n1_ := Aside0.mk (blk_below (bkA BK1052) hb); have n2_ := Aside0.mk (below_step blA hb); clear HO_6; clear BK1052; clear HB; have HO_6 := n0_; have BK1052 := n1_; have HB := n2_; clear n0_ n1_ n2_; (try clear hb); (try clear hb2); (try clear hk); (try clear hi)) | ((with_reducible refine gate_dst (N := 8) rfl ?_); refine box_event ?hg (N := 8) ?hd (cs := #[.int .i64 0, .int .i64 0, .int .i64 0]) (t := 34) ?hr ?_; (case hd => rfl); (case hg => rfl); (case hr => first | (go_simp; done) | (go_simp; rfl)); intro gb1060 hg w18 hbox hb; have n0_ := Aside0.mk (Kd.R_below (Kd.R_elderB (by (with_reducible repeat (first | apply Kd.R_alloc | apply Kd.R_drewN | apply Kd.R_drew)); exact HO_6.out) gb1060 (Nat.le_of_eq hg.symm)) hb); have n1_ := Aside0.mk (blk_below (bkA BK1052) hb); have n2_ := Aside0.mk (below_step blA hb); have n3_ := Aside0.mk (hbox); have n4_ := Aside0.mk (szA hg blA); have n5_ := Aside0.mk (szA hg blA); have n6_ := Aside0.mk (neA hg (bkA BK1052)); have n7_ := Aside0.mk (neB hg (bkA BK1052)); clear HO_6; clear BK1052; clear HB; have HO_6 := n0_; have BK1052 := n1_; have HB := n2_; have BK1060 := n3_; have GW1060 := n4_; have GE1060 := n5_; have NB1052_1060 := n6_; have NB1060_1052 := n7_; clear n0_ n1_ n2_ n3_ n4_ n5_ n6_ n7_; clear hb hbox hg; have hnb19 := NB1060_1052.out; have hnc19 := NB1052_1060.out; have hcz20_0 : w18.cell? ⟨gb1060, 0, none⟩ = some (.int .i64 0) := (blk_cell BK1060.out 0).trans rfl; have hcz20_1 : w18.cell? ⟨gb1060, 1, none⟩ = some (.int .i64 0) := (blk_cell BK1060.out 1).trans rfl; have hcz20_2 : w18.cell? ⟨gb1060, 2, none⟩ = some (.int .i64 0) := (blk_cell BK1060.out 2).trans rfl; have hfz20_0 := blk_frozen BK1060.out 0; have hfz20_1 := blk_frozen BK1060.out 1; have hfz20_2 := blk_frozen BK1060.out 2))
          go_ret2
          exact ⟨_, by first | rfl | (simp [errW_none, errW_some] <;> rfl) | (simp [*, errW_none, errW_some] <;> rfl), by first | exact Kd.R_nil _ _ _ _ _ | exact Kd.N_nil _ _ _ _ _ | exact Kd.V_nil _ _ _ _ _ | exact Kd.Q_nil _ _ _ _ _ | exact Kd.S_nil _ _ _ _ _, blA⟩
      · rw [if_neg c6] at H
        have c6b0 : decide (x7_1 < a0) = false := decide_eq_false c6
        clear c6
        simp only [Option.some.injEq, Prod.mk.injEq] at H
        obtain ⟨rfl, rfl⟩ := H
        go_wp2
        go_ret2
        exact ⟨_, by first | rfl | (simp [errW_none, errW_some] <;> rfl) | (simp [*, errW_none, errW_some] <;> rfl), by (with_reducible repeat (first | apply Kd.R_alloc | apply Kd.R_drewN | apply Kd.R_drew)); exact Kd.R_mono HO_6.out (fun _ hk => trivial), blA⟩
/-! ### spec_l02Near: function 152 -/
def spec_l02Near.f (k : Nat) (a0 : Int) (a1_0 : Int) (a1_1 : Int) (a1_2 : Int) : Option ((List (S34)) × Bool) := (spec_l01Parent.f k a0 a1_0 a1_1 a1_2).bind fun bt1065 => ((spec_l02Children.f k a0 a1_0 a1_1 a1_2).bind fun bt1070 => ((some (([(⟨bt1065.1, bt1065.2.1, bt1065.2.2.1⟩ : S34)] : List (S34)) : List (S34))).bind fun y1074 => (if y1074.length + bt1070.1.length < 5864062014805 then ((some (y1074 ++ bt1070.1 : List (S34))).bind fun y1077 => (if bt1065.2.2.2 = true then (some (y1077, bt1070.2)) else (some (y1077, false)))) else (none))))
theorem spec_l02Near.mono : ∀ a0 a1 a2 a3 k, LeO (spec_l02Near.f k a0 a1 a2 a3) (spec_l02Near.f (k + 1) a0 a1 a2 a3) := by
  intro a0 a1 a2 a3 k
  unfold spec_l02Near.f
  repeat' first
      | (with_reducible exact spec_l01Parent.mono _ _ _ _ _)
      | (with_reducible exact spec_l02Children.mono _ _ _ _ _)
      | (with_reducible exact LeO.refl _)
      | (with_reducible exact LeO.none _)
      | (with_reducible refine LeO.ite ?_ ?_)
      | (with_reducible refine LeO.bind ?_ (fun _ => ?_))
      | exact spec_l01Parent.mono _ _ _ _ _
      | exact spec_l02Children.mono _ _ _ _ _
      | exact LeO.none _
      | refine LeO.ite ?_ ?_
      | refine LeO.bind ?_ (fun _ => ?_)
set_option maxHeartbeats 8000000 in
set_option maxRecDepth 100000 in
theorem spec_l02Near.calls (k : Nat) (a0 : Int) (a1_0 : Int) (a1_1 : Int) (a1_2 : Int) (r1 : List (S34)) (r2 : Bool) (w : World) (h : spec_l02Near.f k a0 a1_0 a1_1 a1_2 = some (r1, r2)) :
    Calls Try.prog 152 #[.int .i64 a0, .agg #[.int .i64 a1_0, .int .i64 a1_1, .int .i64 a1_2]] w fun e w' => ∃ v0_ : Value, e = .returned (.tuple #[v0_, .bool r2]) ∧ Kd.R k34 34 w' w.heap.size (fun _ => True) v0_ r1 ∧ Below w.heap.size w w' := by
  have hu34 := Try.underlying34
  have HB := Aside0.mk (Below.refl w.heap.size w)
  have H : ((spec_l01Parent.f k a0 a1_0 a1_1 a1_2).bind fun bt1065 => ((spec_l02Children.f k a0 a1_0 a1_1 a1_2).bind fun bt1070 => ((some (([(⟨bt1065.1, bt1065.2.1, bt1065.2.2.1⟩ : S34)] : List (S34)) : List (S34))).bind fun y1074 => (if y1074.length + bt1070.1.length < 5864062014805 then ((some (y1074 ++ bt1070.1 : List (S34))).bind fun y1077 => (if bt1065.2.2.2 = true then (some (y1077, bt1070.2)) else (some (y1077, false)))) else (none))))) = some (r1, r2) := h
  clear h
  replace H := Option.bind_eq_some_iff.mp H
  obtain ⟨⟨t1065, t1066, t1067, t1068⟩, A30, H⟩ := H
  replace H : ((spec_l02Children.f k a0 a1_0 a1_1 a1_2).bind fun bt1070 => ((some (([(⟨t1065, t1066, t1067⟩ : S34)] : List (S34)) : List (S34))).bind fun y1074 => (if y1074.length + bt1070.1.length < 5864062014805 then ((some (y1074 ++ bt1070.1 : List (S34))).bind fun y1077 => (if t1068 = true then (some (y1077, bt1070.2)) else (some (y1077, false)))) else (none)))) = some (r1, r2) := H
  have A3 := Aside0.mk A30
  clear A30
  replace H := Option.bind_eq_some_iff.mp H
  obtain ⟨⟨t1070, t1073⟩, A40, H⟩ := H
  replace H : ((some (([(⟨t1065, t1066, t1067⟩ : S34)] : List (S34)) : List (S34))).bind fun y1074 => (if y1074.length + t1070.length < 5864062014805 then ((some (y1074 ++ t1070 : List (S34))).bind fun y1077 => (if t1068 = true then (some (y1077, t1073)) else (some (y1077, false)))) else (none))) = some (r1, r2) := H
  have A4 := Aside0.mk A40
  clear A40
  obtain ⟨y1074, hy1074⟩ : ∃ y_ : List (S34), y_ = (([(⟨t1065, t1066, t1067⟩ : S34)] : List (S34))) := ⟨_, rfl⟩
  replace H : (if y1074.length + t1070.length < 5864062014805 then ((some (y1074 ++ t1070 : List (S34))).bind fun y1077 => (if t1068 = true then (some (y1077, t1073)) else (some (y1077, false)))) else (none)) = some (r1, r2) := by first | (rw [hy1074]; with_reducible exact H) | (have H2_ := (Option.bind_some _ _).symm.trans H; rw [hy1074]; with_reducible exact H2_) | (have H2_ := (Option.bind_some _ _).symm.trans H; with_reducible exact H2_) | with_reducible exact H | (rw [hy1074]; exact H) | exact H
  have Ny1074 := Aside0.mk hy1074
  clear hy1074
  by_cases c5 : y1074.length + t1070.length < 5864062014805
  · rw [if_pos c5] at H
    have LMc5 := Aside0.mk c5
    clear c5
    obtain ⟨y1077, hy1077⟩ : ∃ y_ : List (S34), y_ = (y1074 ++ t1070) := ⟨_, rfl⟩
    replace H : (if t1068 = true then (some (y1077, t1073)) else (some (y1077, false))) = some (r1, r2) := by first | (rw [hy1077]; with_reducible exact H) | (have H2_ := (Option.bind_some _ _).symm.trans H; rw [hy1077]; with_reducible exact H2_) | (have H2_ := (Option.bind_some _ _).symm.trans H; with_reducible exact H2_) | with_reducible exact H | (rw [hy1077]; exact H) | exact H
    have Ny1077 := Aside0.mk hy1077
    clear hy1077
    by_cases c6 : t1068 = true
    · subst c6
      have H1 : (some (y1077, t1073)) = some (r1, r2) := by rw [if_pos rfl] at H; exact H
      clear H
      have H := H1
      clear H1
      simp only [Option.some.injEq, Prod.mk.injEq] at H
      obtain ⟨rfl, rfl⟩ := H
      go_enter Try.func152, Try.ntmps152
      go_wp2_with (first | ((with_reducible refine gate_dst (N := 3) rfl ?_); refine box_event ?hg (N := 3) ?hd (cs := #[.int .i64 a1_0, .int .i64 a1_1, .int .i64 a1_2]) (t := 34) ?hr ?_; (case hd => rfl); (case hg => rfl); (case hr => first | (go_simp; done) | (go_simp; rfl)); intro gb1064 hg w7 hbox hb; have n0_ := Aside0.mk (below_step blA hb); have n1_ := Aside0.mk (hbox); have n2_ := Aside0.mk (szA hg blA); have n3_ := Aside0.mk (szA hg blA); clear HB; have HB := n0_; have BK1064 := n1_; have GW1064 := n2_; have GE1064 := n3_; clear n0_ n1_ n2_ n3_; clear hb hbox hg; have hcz8_0 : w7.cell? ⟨gb1064, 0, none⟩ = some (.int .i64 a1_0) := (blk_cell BK1064.out 0).trans rfl; have hcz8_1 : w7.cell? ⟨gb1064, 1, none⟩ = some (.int .i64 a1_1) := (blk_cell BK1064.out 1).trans rfl; have hcz8_2 : w7.cell? ⟨gb1064, 2, none⟩ = some (.int .i64 a1_2) := (blk_cell BK1064.out 2).trans rfl; have hfz8_0 := blk_frozen BK1064.out 0; have hfz8_1 := blk_frozen BK1064.out 1; have hfz8_2 := blk_frozen BK1064.out 2) | ((with_reducible refine gate_callee (f := 123) rfl ?_); refine goesL_ (some 13) rfl rfl Try.func123 (by kernel_rfl) rfl #[.int .i64 a0, .agg #[.int .i64 a1_0, .int .i64 a1_1, .int .i64 a1_2]] rfl (by (try simp only [List.map_toArray, List.map_cons, List.map_nil]); first | done | rfl | (simp only [List.length_drop, List.length_take]; rfl)) ?_; (with_reducible refine (spec_l01Parent.calls k a0 a1_0 a1_1 a1_2 t1065 t1066 t1067 true _ A3.out).mono ?_); rintro e w9 ⟨rfl, hb⟩; refine ⟨_, rfl, ?_⟩; have n0_ := Aside0.mk (blk_below (bkA BK1064) hb); have n1_ := Aside0.mk (below_step blA hb); clear BK1064; clear HB; have BK1064 := n0_; have HB := n1_; clear n0_ n1_; (try clear hb); (try clear hb2); (try clear hk); (try clear hi)) | ((with_reducible refine gate_dst (N := 6) rfl ?_); refine box_event ?hg (N := 6) ?hd (cs := #[.int .i64 0, .int .i64 0, .int .i64 0]) (t := 34) ?hr ?_; (case hd => rfl); (case hg => rfl); (case hr => first | (go_simp; done) | (go_simp; rfl)); intro gb1069 hg w10 hbox hb; have n0_ := Aside0.mk (blk_below (bkA BK1064) hb); have n1_ := Aside0.mk (below_step blA hb); have n2_ := Aside0.mk (hbox); have n3_ := Aside0.mk (szA hg blA); have n4_ := Aside0.mk (szA hg blA); have n5_ := Aside0.mk (neA hg (bkA BK1064)); have n6_ := Aside0.mk (neB hg (bkA BK1064)); clear BK1064; clear HB; have BK1064 := n0_; have HB := n1_; have BK1069 := n2_; have GW1069 := n3_; have GE1069 := n4_; have NB1064_1069 := n5_; have NB1069_1064 := n6_; clear n0_ n1_ n2_ n3_ n4_ n5_ n6_; clear hb hbox hg; have hnb11 := NB1069_1064.out; have hnc11 := NB1064_1069.out; have hcz12_0 : w10.cell? ⟨gb1069, 0, none⟩ = some (.int .i64 0) := (blk_cell BK1069.out 0).trans rfl; have hcz12_1 : w10.cell? ⟨gb1069, 1, none⟩ = some (.int .i64 0) := (blk_cell BK1069.out 1).trans rfl; have hcz12_2 : w10.cell? ⟨gb1069, 2, none⟩ = some (.int .i64 0) := (blk_cell BK1069.out 2).trans rfl; have hfz12_0 := blk_frozen BK1069.out 0; have hfz12_1 := blk_frozen BK1069.out 1; have hfz12_2 := blk_frozen BK1069.out 2; have hcz13_0 : w10.cell? ⟨gb1064, 0, none⟩ = some (.int .i64 a1_0) := (blk_cell BK1064.out 0).trans rfl; have hcz13_1 : w10.cell? ⟨gb1064, 1, none⟩ = some (.int .i64 a1_1) := (blk_cell BK1064.out 1).trans rfl; have hcz13_2 : w10.cell? ⟨gb1064, 2, none⟩ = some (.int .i64 a1_2) := (blk_cell BK1064.out 2).trans rfl; have hfz13_0 := blk_frozen BK1064.out 0; have hfz13_1 := blk_frozen BK1064.out 1; have hfz13_2 := blk_frozen BK1064.out 2) | ((with_reducible refine gate_callee (f := 157) rfl ?_); refine goesL_ (some 19) rfl rfl Try.func157 (by kernel_rfl) rfl #[.int .i64 a0, .agg #[.int .i64 a1_0, .int .i64 a1_1, .int .i64 a1_2]] rfl (by (try simp only [List.map_toArray, List.map_cons, List.map_nil]); first | done | rfl | (simp only [List.length_drop, List.length_take]; rfl)) ?_; (with_reducible refine (spec_l02Children.calls k a0 a1_0 a1_1 a1_2 t1070 t1073 _ A4.out).mono ?_); rintro e w14 ⟨v1071, rfl, ho0, hb⟩; refine ⟨_, rfl, ?_⟩; have n0_ := Aside0.mk (Kd.R_lower (Kd.R_newB (Kd.R_newB ho0 (g := gb1064) (o := .cells #[.int .i64 a1_0, .int .i64 a1_1, .int .i64 a1_2] 34 (0, 0)) (by (with_reducible repeat (first | refine blk_drewN ?_ _ | refine blk_drew ?_ | refine blk_alloc ?_ _)); refine blk_far ?_ NB1064_1069.out _; (with_reducible repeat (first | refine blk_drewN ?_ _ | refine blk_drew ?_ | refine blk_alloc ?_ _)); refine blk_far ?_ NB1064_1069.out _; (with_reducible repeat (first | refine blk_drewN ?_ _ | refine blk_drew ?_ | refine blk_alloc ?_ _)); refine blk_far ?_ NB1064_1069.out _; (with_reducible repeat (first | refine blk_drewN ?_ _ | refine blk_drew ?_ | refine blk_alloc ?_ _)); exact BK1064.out)) (g := gb1069) (o := .cells #[.int .i64 t1065, .int .i64 t1066, .int .i64 t1067] 34 (0, 0)) (by (with_reducible repeat (first | refine blk_drewN ?_ _ | refine blk_drew ?_ | refine blk_alloc ?_ _)); refine blk_put (cs := #[.int .i64 t1065, .int .i64 t1066, .int .i64 0]) ?_ 2 _ rfl; (with_reducible repeat (first | refine blk_drewN ?_ _ | refine blk_drew ?_ | refine blk_alloc ?_ _)); refine blk_put (cs := #[.int .i64 t1065, .int .i64 0, .int .i64 0]) ?_ 1 _ rfl; (with_reducible repeat (first | refine blk_drewN ?_ _ | refine blk_drew ?_ | refine blk_alloc ?_ _)); refine blk_put (cs := #[.int .i64 0, .int .i64 0, .int .i64 0]) ?_ 0 _ rfl; (with_reducible repeat (first | refine blk_drewN ?_ _ | refine blk_drew ?_ | refine blk_alloc ?_ _)); exact BK1069.out)) (below_size blA)); have n1_ := Aside0.mk (blk_below (g := gb1064) (o := .cells #[.int .i64 a1_0, .int .i64 a1_1, .int .i64 a1_2] 34 (0, 0)) (by (with_reducible repeat (first | refine blk_drewN ?_ _ | refine blk_drew ?_ | refine blk_alloc ?_ _)); refine blk_far ?_ NB1064_1069.out _; (with_reducible repeat (first | refine blk_drewN ?_ _ | refine blk_drew ?_ | refine blk_alloc ?_ _)); refine blk_far ?_ NB1064_1069.out _; (with_reducible repeat (first | refine blk_drewN ?_ _ | refine blk_drew ?_ | refine blk_alloc ?_ _)); refine blk_far ?_ NB1064_1069.out _; (with_reducible repeat (first | refine blk_drewN ?_ _ | refine blk_drew ?_ | refine blk_alloc ?_ _)); exact BK1064.out) hb); have n2_ := Aside0.mk (blk_below (g := gb1069) (o := .cells #[.int .i64 t1065, .int .i64 t1066, .int .i64 t1067] 34 (0, 0)) (by (with_reducible repeat (first | refine blk_drewN ?_ _ | refine blk_drew ?_ | refine blk_alloc ?_ _)); refine blk_put (cs := #[.int .i64 t1065, .int .i64 t1066, .int .i64 0]) ?_ 2 _ rfl; (with_reducible repeat (first | refine blk_drewN ?_ _ | refine blk_drew ?_ | refine blk_alloc ?_ _)); refine blk_put (cs := #[.int .i64 t1065, .int .i64 0, .int .i64 0]) ?_ 1 _ rfl; (with_reducible repeat (first | refine blk_drewN ?_ _ | refine blk_drew ?_ | refine blk_alloc ?_ _)); refine blk_put (cs := #[.int .i64 0, .int .i64 0, .int .i64 0]) ?_ 0 _ rfl; (with_reducible repeat (first | refine blk_drewN ?_ _ | refine blk_drew ?_ | refine blk_alloc ?_ _)); exact BK1069.out) hb); have n3_ := Aside0.mk (below_step blA hb); clear BK1064; clear BK1069; clear HB; have HO1072 := n0_; have BK1064 := n1_; have BK1069 := n2_; have HB := n3_; clear n0_ n1_ n2_ n3_; (try clear hb); (try clear hb2); (try clear hk); (try clear hi); (try clear ho0); have hcz15_0 : w14.cell? ⟨gb1069, 0, none⟩ = some (.int .i64 t1065) := (blk_cell BK1069.out 0).trans rfl; have hcz15_1 : w14.cell? ⟨gb1069, 1, none⟩ = some (.int .i64 t1066) := (blk_cell BK1069.out 1).trans rfl; have hcz15_2 : w14.cell? ⟨gb1069, 2, none⟩ = some (.int .i64 t1067) := (blk_cell BK1069.out 2).trans rfl; have hfz15_0 := blk_frozen BK1069.out 0; have hfz15_1 := blk_frozen BK1069.out 1; have hfz15_2 := blk_frozen BK1069.out 2) | ((with_reducible refine gate_dst (N := 23) rfl ?_); refine Kd.R_lit k34 _ 34 ?hg (N := 23) ?hd (xs := ([(⟨t1065, t1066, t1067⟩ : S34)] : List (S34))) (inner := [.int .i64 t1065, .int .i64 t1066, .int .i64 t1067]) (ok := fun _ => True) (okp := fun _ => True) ?hr ?hp (fun _ hk => hk) trivial (Below.refl _ _) (Nat.le_refl _) (by simp) ?_; (case hd => rfl); (case hg => rfl); (case hr => first | (go_simp; done) | (go_simp; rfl)); (case hp => exact (Reps.c3 (show Kd.M k34 _ _ _ (⟨t1065, t1066, t1067⟩ : S34) [.int .i64 t1065, .int .i64 t1066, .int .i64 t1067] from (k34_mkM _ _ _ (⟨t1065, t1066, t1067⟩ : S34) )) (Reps.none _ _))); intro v1075 w16 ho17 hb hg_ hnew_; clear hg_ hnew_; (first | rw [← Ny1074.out] at ho17 | (simp only [Int.reduceToNat] at ho17; rw [← Ny1074.out] at ho17)); have n0_ := Aside0.mk (Kd.R_elder' (by (with_reducible repeat (first | apply Kd.R_alloc | apply Kd.R_drewN | apply Kd.R_drew)); exact HO1072.out) (Kd.R_base ho17) hb); have n1_ := Aside0.mk (Kd.R_lower (Kd.R_newB (Kd.R_newB (Kd.R_new' ho17 (Kd.R_lt (by (with_reducible repeat (first | apply Kd.R_alloc | apply Kd.R_drewN | apply Kd.R_drew)); exact HO1072.out))) (bkA BK1064)) (bkA BK1069)) (below_size blA)); have n2_ := Aside0.mk (blk_below (bkA BK1064) hb); have n3_ := Aside0.mk (blk_below (bkA BK1069) hb); have n4_ := Aside0.mk (below_step blA hb); clear HO1072; clear BK1064; clear BK1069; clear HB; have HO1072 := n0_; have HO1076 := n1_; have BK1064 := n2_; have BK1069 := n3_; have HB := n4_; clear n0_ n1_ n2_ n3_ n4_; clear hb ho17; obtain ⟨Ao19, co19, eo19⟩ := Kd.R_slice HO1072.out; subst eo19) | ((with_reducible refine gate_builtin (b := .append) (xs := #[.tmp 23, .tmp 24]) rfl ?_); at_builtin; refine Kd.R_append_rows k34 (w0 := w) w.heap.size rfl (.tmp 23) (.tmp 24) 56 34 (.agg #[(.int .i64 0), (.int .i64 0), (.int .i64 0)]) 24 rfl Try.underlying56 info34 rfl (by decide) (by omega) v1075 y1074 t1070 _ _ _ (fun k_ => some k_ ≠ (.slice Ao19 t1070.length co19 : Value).ownBlock ∧ k_ ≠ gb1064 ∧ k_ ≠ gb1069) (fun _ => False) rfl rfl ?aO ?aR (fun _ _ h => h) (fun _ h => h.elim) ?aF ?aB ?aS ?aL ?_; (case aR => repeat (first | exact (Kd.R_reads' HO1072.out).2.2 | (with_reducible refine Kd.C_alloc ?_ _) | (with_reducible refine Kd.C_drewN ?_ _) | (with_reducible refine Kd.C_drew ?_))); (case aB => exact blA); (case aF => exact (fun k_ hk => ⟨Kd.fresh' (Kd.R_lt (by (with_reducible repeat (first | apply Kd.R_alloc | apply Kd.R_drewN | apply Kd.R_drew)); exact HO1072.out)) k_ hk, Kd.freshB (bkA BK1064) k_ hk, Kd.freshB (bkA BK1069) k_ hk⟩)); (case aO => exact (by (with_reducible repeat (first | apply Kd.R_alloc | apply Kd.R_drewN | apply Kd.R_drew)); exact Kd.R_mono HO1076.out (fun _ hk => ⟨hk.1.1.2, ⟨hk.1.2, hk.2⟩⟩))); (case aS => exact (below_size blA)); (case aL => have := LMc5.out; omega); intro v1078 w18 ho hb hg hat; rw [← Ny1077.out] at ho; have n0_ := Aside0.mk (blk_grown (bkA BK1064) hg (Kd.R_away HO1076.out (fun _ hk => hk.1.2))); have n1_ := Aside0.mk (blk_grown (bkA BK1069) hg (Kd.R_away HO1076.out (fun _ hk => hk.2))); have n2_ := Aside0.mk (Kd.R_after (ok := (fun k_ => k_ ≠ gb1064 ∧ k_ ≠ gb1069)) (by (with_reducible repeat (first | apply Kd.R_alloc | apply Kd.R_drewN | apply Kd.R_drew)); exact Kd.R_mono HO1072.out (fun _ hk => ⟨⟨hk.1.1.2, hk.1.2⟩, hk.2⟩)) hg hat); have n3_ := Aside0.mk (hb); have n4_ := Aside0.mk (ho); clear BK1064; clear BK1069; clear HO1072; clear HB; clear HO1076; have BK1064 := n0_; have BK1069 := n1_; have HO1072 := n2_; have HB := n3_; have HO1079 := n4_; clear n0_ n1_ n2_ n3_ n4_; clear ho hb hg hat))
      go_ret2
      exact ⟨_, by first | rfl | (simp [errW_none, errW_some] <;> rfl) | (simp [*, errW_none, errW_some] <;> rfl), by (with_reducible repeat (first | apply Kd.R_alloc | apply Kd.R_drewN | apply Kd.R_drew)); exact Kd.R_mono HO1079.out (fun _ hk => trivial), blA⟩
    · replace c6 := Bool.eq_false_iff.mpr c6
      subst c6
      have H1 : (some (y1077, false)) = some (r1, r2) := by rw [if_neg (show ¬ (false = true) by decide)] at H; exact H
      clear H
      have H := H1
      clear H1
      simp only [Option.some.injEq, Prod.mk.injEq] at H
      obtain ⟨rfl, rfl⟩ := H
      go_enter Try.func152, Try.ntmps152
      go_wp2_with (first | ((with_reducible refine gate_dst (N := 3) rfl ?_); refine box_event ?hg (N := 3) ?hd (cs := #[.int .i64 a1_0, .int .i64 a1_1, .int .i64 a1_2]) (t := 34) ?hr ?_; (case hd => rfl); (case hg => rfl); (case hr => first | (go_simp; done) | (go_simp; rfl)); intro gb1064 hg w20 hbox hb; have n0_ := Aside0.mk (below_step blA hb); have n1_ := Aside0.mk (hbox); have n2_ := Aside0.mk (szA hg blA); have n3_ := Aside0.mk (szA hg blA); clear HB; have HB := n0_; have BK1064 := n1_; have GW1064 := n2_; have GE1064 := n3_; clear n0_ n1_ n2_ n3_; clear hb hbox hg; have hcz21_0 : w20.cell? ⟨gb1064, 0, none⟩ = some (.int .i64 a1_0) := (blk_cell BK1064.out 0).trans rfl; have hcz21_1 : w20.cell? ⟨gb1064, 1, none⟩ = some (.int .i64 a1_1) := (blk_cell BK1064.out 1).trans rfl; have hcz21_2 : w20.cell? ⟨gb1064, 2, none⟩ = some (.int .i64 a1_2) := (blk_cell BK1064.out 2).trans rfl; have hfz21_0 := blk_frozen BK1064.out 0; have hfz21_1 := blk_frozen BK1064.out 1; have hfz21_2 := blk_frozen BK1064.out 2) | ((with_reducible refine gate_callee (f := 123) rfl ?_); refine goesL_ (some 13) rfl rfl Try.func123 (by kernel_rfl) rfl #[.int .i64 a0, .agg #[.int .i64 a1_0, .int .i64 a1_1, .int .i64 a1_2]] rfl (by (try simp only [List.map_toArray, List.map_cons, List.map_nil]); first | done | rfl | (simp only [List.length_drop, List.length_take]; rfl)) ?_; (with_reducible refine (spec_l01Parent.calls k a0 a1_0 a1_1 a1_2 t1065 t1066 t1067 false _ A3.out).mono ?_); rintro e w22 ⟨rfl, hb⟩; refine ⟨_, rfl, ?_⟩; have n0_ := Aside0.mk (blk_below (bkA BK1064) hb); have n1_ := Aside0.mk (below_step blA hb); clear BK1064; clear HB; have BK1064 := n0_; have HB := n1_; clear n0_ n1_; (try clear hb); (try clear hb2); (try clear hk); (try clear hi)) | ((with_reducible refine gate_dst (N := 6) rfl ?_); refine box_event ?hg (N := 6) ?hd (cs := #[.int .i64 0, .int .i64 0, .int .i64 0]) (t := 34) ?hr ?_; (case hd => rfl); (case hg => rfl); (case hr => first | (go_simp; done) | (go_simp; rfl)); intro gb1069 hg w23 hbox hb; have n0_ := Aside0.mk (blk_below (bkA BK1064) hb); have n1_ := Aside0.mk (below_step blA hb); have n2_ := Aside0.mk (hbox); have n3_ := Aside0.mk (szA hg blA); have n4_ := Aside0.mk (szA hg blA); have n5_ := Aside0.mk (neA hg (bkA BK1064)); have n6_ := Aside0.mk (neB hg (bkA BK1064)); clear BK1064; clear HB; have BK1064 := n0_; have HB := n1_; have BK1069 := n2_; have GW1069 := n3_; have GE1069 := n4_; have NB1064_1069 := n5_; have NB1069_1064 := n6_; clear n0_ n1_ n2_ n3_ n4_ n5_ n6_; clear hb hbox hg; have hnb24 := NB1069_1064.out; have hnc24 := NB1064_1069.out; have hcz25_0 : w23.cell? ⟨gb1069, 0, none⟩ = some (.int .i64 0) := (blk_cell BK1069.out 0).trans rfl; have hcz25_1 : w23.cell? ⟨gb1069, 1, none⟩ = some (.int .i64 0) := (blk_cell BK1069.out 1).trans rfl; have hcz25_2 : w23.cell? ⟨gb1069, 2, none⟩ = some (.int .i64 0) := (blk_cell BK1069.out 2).trans rfl; have hfz25_0 := blk_frozen BK1069.out 0; have hfz25_1 := blk_frozen BK1069.out 1; have hfz25_2 := blk_frozen BK1069.out 2; have hcz26_0 : w23.cell? ⟨gb1064, 0, none⟩ = some (.int .i64 a1_0) := (blk_cell BK1064.out 0).trans rfl; have hcz26_1 : w23.cell? ⟨gb1064, 1, none⟩ = some (.int .i64 a1_1) := (blk_cell BK1064.out 1).trans rfl; have hcz26_2 : w23.cell? ⟨gb1064, 2, none⟩ = some (.int .i64 a1_2) := (blk_cell BK1064.out 2).trans rfl; have hfz26_0 := blk_frozen BK1064.out 0; have hfz26_1 := blk_frozen BK1064.out 1; have hfz26_2 := blk_frozen BK1064.out 2) | ((with_reducible refine gate_callee (f := 157) rfl ?_); refine goesL_ (some 19) rfl rfl Try.func157 (by kernel_rfl) rfl #[.int .i64 a0, .agg #[.int .i64 a1_0, .int .i64 a1_1, .int .i64 a1_2]] rfl (by (try simp only [List.map_toArray, List.map_cons, List.map_nil]); first | done | rfl | (simp only [List.length_drop, List.length_take]; rfl)) ?_; (with_reducible refine (spec_l02Children.calls k a0 a1_0 a1_1 a1_2 t1070 t1073 _ A4.out).mono ?_); rintro e w27 ⟨v1071, rfl, ho0, hb⟩; refine ⟨_, rfl, ?_⟩; have n0_ := Aside0.mk (Kd.R_lower (Kd.R_newB (Kd.R_newB ho0 (g := gb1064) (o := .cells #[.int .i64 a1_0, .int .i64 a1_1, .int .i64 a1_2] 34 (0, 0)) (by (with_reducible repeat (first | refine blk_drewN ?_ _ | refine blk_drew ?_ | refine blk_alloc ?_ _)); refine blk_far ?_ NB1064_1069.out _; (with_reducible repeat (first | refine blk_drewN ?_ _ | refine blk_drew ?_ | refine blk_alloc ?_ _)); refine blk_far ?_ NB1064_1069.out _; (with_reducible repeat (first | refine blk_drewN ?_ _ | refine blk_drew ?_ | refine blk_alloc ?_ _)); refine blk_far ?_ NB1064_1069.out _; (with_reducible repeat (first | refine blk_drewN ?_ _ | refine blk_drew ?_ | refine blk_alloc ?_ _)); exact BK1064.out)) (g := gb1069) (o := .cells #[.int .i64 t1065, .int .i64 t1066, .int .i64 t1067] 34 (0, 0)) (by (with_reducible repeat (first | refine blk_drewN ?_ _ | refine blk_drew ?_ | refine blk_alloc ?_ _)); refine blk_put (cs := #[.int .i64 t1065, .int .i64 t1066, .int .i64 0]) ?_ 2 _ rfl; (with_reducible repeat (first | refine blk_drewN ?_ _ | refine blk_drew ?_ | refine blk_alloc ?_ _)); refine blk_put (cs := #[.int .i64 t1065, .int .i64 0, .int .i64 0]) ?_ 1 _ rfl; (with_reducible repeat (first | refine blk_drewN ?_ _ | refine blk_drew ?_ | refine blk_alloc ?_ _)); refine blk_put (cs := #[.int .i64 0, .int .i64 0, .int .i64 0]) ?_ 0 _ rfl; (with_reducible repeat (first | refine blk_drewN ?_ _ | refine blk_drew ?_ | refine blk_alloc ?_ _)); exact BK1069.out)) (below_size blA)); have n1_ := Aside0.mk (blk_below (g := gb1064) (o := .cells #[.int .i64 a1_0, .int .i64 a1_1, .int .i64 a1_2] 34 (0, 0)) (by (with_reducible repeat (first | refine blk_drewN ?_ _ | refine blk_drew ?_ | refine blk_alloc ?_ _)); refine blk_far ?_ NB1064_1069.out _; (with_reducible repeat (first | refine blk_drewN ?_ _ | refine blk_drew ?_ | refine blk_alloc ?_ _)); refine blk_far ?_ NB1064_1069.out _; (with_reducible repeat (first | refine blk_drewN ?_ _ | refine blk_drew ?_ | refine blk_alloc ?_ _)); refine blk_far ?_ NB1064_1069.out _; (with_reducible repeat (first | refine blk_drewN ?_ _ | refine blk_drew ?_ | refine blk_alloc ?_ _)); exact BK1064.out) hb); have n2_ := Aside0.mk (blk_below (g := gb1069) (o := .cells #[.int .i64 t1065, .int .i64 t1066, .int .i64 t1067] 34 (0, 0)) (by (with_reducible repeat (first | refine blk_drewN ?_ _ | refine blk_drew ?_ | refine blk_alloc ?_ _)); refine blk_put (cs := #[.int .i64 t1065, .int .i64 t1066, .int .i64 0]) ?_ 2 _ rfl; (with_reducible repeat (first | refine blk_drewN ?_ _ | refine blk_drew ?_ | refine blk_alloc ?_ _)); refine blk_put (cs := #[.int .i64 t1065, .int .i64 0, .int .i64 0]) ?_ 1 _ rfl; (with_reducible repeat (first | refine blk_drewN ?_ _ | refine blk_drew ?_ | refine blk_alloc ?_ _)); refine blk_put (cs := #[.int .i64 0, .int .i64 0, .int .i64 0]) ?_ 0 _ rfl; (with_reducible repeat (first | refine blk_drewN ?_ _ | refine blk_drew ?_ | refine blk_alloc ?_ _)); exact BK1069.out) hb); have n3_ := Aside0.mk (below_step blA hb); clear BK1064; clear BK1069; clear HB; have HO1072 := n0_; have BK1064 := n1_; have BK1069 := n2_; have HB := n3_; clear n0_ n1_ n2_ n3_; (try clear hb); (try clear hb2); (try clear hk); (try clear hi); (try clear ho0); have hcz28_0 : w27.cell? ⟨gb1069, 0, none⟩ = some (.int .i64 t1065) := (blk_cell BK1069.out 0).trans rfl; have hcz28_1 : w27.cell? ⟨gb1069, 1, none⟩ = some (.int .i64 t1066) := (blk_cell BK1069.out 1).trans rfl; have hcz28_2 : w27.cell? ⟨gb1069, 2, none⟩ = some (.int .i64 t1067) := (blk_cell BK1069.out 2).trans rfl; have hfz28_0 := blk_frozen BK1069.out 0; have hfz28_1 := blk_frozen BK1069.out 1; have hfz28_2 := blk_frozen BK1069.out 2) | ((with_reducible refine gate_dst (N := 23) rfl ?_); refine Kd.R_lit k34 _ 34 ?hg (N := 23) ?hd (xs := ([(⟨t1065, t1066, t1067⟩ : S34)] : List (S34))) (inner := [.int .i64 t1065, .int .i64 t1066, .int .i64 t1067]) (ok := fun _ => True) (okp := fun _ => True) ?hr ?hp (fun _ hk => hk) trivial (Below.refl _ _) (Nat.le_refl _) (by simp) ?_; (case hd => rfl); (case hg => rfl); (case hr => first | (go_simp; done) | (go_simp; rfl)); (case hp => exact (Reps.c3 (show Kd.M k34 _ _ _ (⟨t1065, t1066, t1067⟩ : S34) [.int .i64 t1065, .int .i64 t1066, .int .i64 t1067] from (k34_mkM _ _ _ (⟨t1065, t1066, t1067⟩ : S34) )) (Reps.none _ _))); intro v1075 w29 ho30 hb hg_ hnew_; clear hg_ hnew_; (first | rw [← Ny1074.out] at ho30 | (simp only [Int.reduceToNat] at ho30; rw [← Ny1074.out] at ho30)); have n0_ := Aside0.mk (Kd.R_elder' (by (with_reducible repeat (first | apply Kd.R_alloc | apply Kd.R_drewN | apply Kd.R_drew)); exact HO1072.out) (Kd.R_base ho30) hb); have n1_ := Aside0.mk (Kd.R_lower (Kd.R_newB (Kd.R_newB (Kd.R_new' ho30 (Kd.R_lt (by (with_reducible repeat (first | apply Kd.R_alloc | apply Kd.R_drewN | apply Kd.R_drew)); exact HO1072.out))) (bkA BK1064)) (bkA BK1069)) (below_size blA)); have n2_ := Aside0.mk (blk_below (bkA BK1064) hb); have n3_ := Aside0.mk (blk_below (bkA BK1069) hb); have n4_ := Aside0.mk (below_step blA hb); clear HO1072; clear BK1064; clear BK1069; clear HB; have HO1072 := n0_; have HO1076 := n1_; have BK1064 := n2_; have BK1069 := n3_; have HB := n4_; clear n0_ n1_ n2_ n3_ n4_; clear hb ho30; obtain ⟨Ao32, co32, eo32⟩ := Kd.R_slice HO1072.out; subst eo32) | ((with_reducible refine gate_builtin (b := .append) (xs := #[.tmp 23, .tmp 24]) rfl ?_); at_builtin; refine Kd.R_append_rows k34 (w0 := w) w.heap.size rfl (.tmp 23) (.tmp 24) 56 34 (.agg #[(.int .i64 0), (.int .i64 0), (.int .i64 0)]) 24 rfl Try.underlying56 info34 rfl (by decide) (by omega) v1075 y1074 t1070 _ _ _ (fun k_ => some k_ ≠ (.slice Ao32 t1070.length co32 : Value).ownBlock ∧ k_ ≠ gb1064 ∧ k_ ≠ gb1069) (fun _ => False) rfl rfl ?aO ?aR (fun _ _ h => h) (fun _ h => h.elim) ?aF ?aB ?aS ?aL ?_; (case aR => repeat (first | exact (Kd.R_reads' HO1072.out).2.2 | (with_reducible refine Kd.C_alloc ?_ _) | (with_reducible refine Kd.C_drewN ?_ _) | (with_reducible refine Kd.C_drew ?_))); (case aB => exact blA); (case aF => exact (fun k_ hk => ⟨Kd.fresh' (Kd.R_lt (by (with_reducible repeat (first | apply Kd.R_alloc | apply Kd.R_drewN | apply Kd.R_drew)); exact HO1072.out)) k_ hk, Kd.freshB (bkA BK1064) k_ hk, Kd.freshB (bkA BK1069) k_ hk⟩)); (case aO => exact (by (with_reducible repeat (first | apply Kd.R_alloc | apply Kd.R_drewN | apply Kd.R_drew)); exact Kd.R_mono HO1076.out (fun _ hk => ⟨hk.1.1.2, ⟨hk.1.2, hk.2⟩⟩))); (case aS => exact (below_size blA)); (case aL => have := LMc5.out; omega); intro v1078 w31 ho hb hg hat; rw [← Ny1077.out] at ho; have n0_ := Aside0.mk (blk_grown (bkA BK1064) hg (Kd.R_away HO1076.out (fun _ hk => hk.1.2))); have n1_ := Aside0.mk (blk_grown (bkA BK1069) hg (Kd.R_away HO1076.out (fun _ hk => hk.2))); have n2_ := Aside0.mk (Kd.R_after (ok := (fun k_ => k_ ≠ gb1064 ∧ k_ ≠ gb1069)) (by (with_reducible repeat (first | apply Kd.R_alloc | apply Kd.R_drewN | apply Kd.R_drew)); exact Kd.R_mono HO1072.out (fun _ hk => ⟨⟨hk.1.1.2, hk.1.2⟩, hk.2⟩)) hg hat); have n3_ := Aside0.mk (hb); have n4_ := Aside0.mk (ho); clear BK1064; clear BK1069; clear HO1072; clear HB; clear HO1076; have BK1064 := n0_; have BK1069 := n1_; have HO1072 := n2_; have HB := n3_; have HO1079 := n4_; clear n0_ n1_ n2_ n3_ n4_; clear ho hb hg hat))
      go_ret2
      exact ⟨_, by first | rfl | (simp [errW_none, errW_some] <;> rfl) | (simp [*, errW_none, errW_some] <;> rfl), by (with_reducible repeat (first | apply Kd.R_alloc | apply Kd.R_drewN | apply Kd.R_drew)); exact Kd.R_mono HO1079.out (fun _ hk => trivial), blA⟩
  · rw [if_neg c5] at H
    exact absurd H (by simp)
/-! ### impl_someNeighbours: function 153 -/
def impl_someNeighbours.l0 : Nat → Int → List (S34) → Int → Int → Int → Int → Option ((List (S34)) × Bool)
  | 0, _, _, _, _, _, _ => none
  | k + 1, x0, x8, x9, x1119000, x1119001, x1119002 => if x9 ≤ x0 then ((impl_neighbour.f k x0 x1119000 x1119001 x1119002 x9).bind fun bt1122 => (if bt1122.2.2.2 = true then (if x8.length < 5864062014805 then (impl_someNeighbours.l0 k x0 (x8 ++ [(⟨bt1122.1, bt1122.2.1, bt1122.2.2.1⟩ : S34)]) (wrap64 (x9 + 1)) x1119000 x1119001 x1119002) else (none)) else (some (([] : List (S34)), false)))) else (some (x8, true))
def impl_someNeighbours.f (k : Nat) (a0 : Int) (a1_0 : Int) (a1_1 : Int) (a1_2 : Int) (a2 : Int) : Option ((List (S34)) × Bool) := impl_someNeighbours.l0 k a0 (([] : List (S34))) a2 a1_0 a1_1 a1_2
theorem impl_someNeighbours.mono_l : ∀ k, (∀ y0 y1 y2 y3 y4 y5, LeO (impl_someNeighbours.l0 k y0 y1 y2 y3 y4 y5) (impl_someNeighbours.l0 (k + 1) y0 y1 y2 y3 y4 y5))
  | 0 => fun _ _ _ _ _ _ r h => by simp [impl_someNeighbours.l0] at h
  | k + 1 => by
    have ih0 := impl_someNeighbours.mono_l k
    · intro y0 y1 y2 y3 y4 y5
      unfold impl_someNeighbours.l0
      repeat' first
      | (with_reducible exact ih0 _ _ _ _ _ _)
      | (with_reducible exact impl_neighbour.mono _ _ _ _ _ _)
      | (with_reducible exact LeO.refl _)
      | (with_reducible exact LeO.none _)
      | (with_reducible refine LeO.ite ?_ ?_)
      | (with_reducible refine LeO.bind ?_ (fun _ => ?_))
      | exact ih0 _ _ _ _ _ _
      | exact impl_neighbour.mono _ _ _ _ _ _
      | exact LeO.none _
      | refine LeO.ite ?_ ?_
      | refine LeO.bind ?_ (fun _ => ?_)
theorem impl_someNeighbours.mono : ∀ a0 a1 a2 a3 a4 k, LeO (impl_someNeighbours.f k a0 a1 a2 a3 a4) (impl_someNeighbours.f (k + 1) a0 a1 a2 a3 a4) := by
  intro a0 a1 a2 a3 a4 k
  have ih0 := impl_someNeighbours.mono_l k
  unfold impl_someNeighbours.f
  repeat' first
      | (with_reducible exact ih0 _ _ _ _ _ _)
      | (with_reducible exact impl_neighbour.mono _ _ _ _ _ _)
      | (with_reducible exact LeO.refl _)
      | (with_reducible exact LeO.none _)
      | (with_reducible refine LeO.ite ?_ ?_)
      | (with_reducible refine LeO.bind ?_ (fun _ => ?_))
      | exact ih0 _ _ _ _ _ _
      | exact impl_neighbour.mono _ _ _ _ _ _
      | exact LeO.none _
      | refine LeO.ite ?_ ?_
      | refine LeO.bind ?_ (fun _ => ?_)
set_option maxHeartbeats 8000000 in
set_option maxRecDepth 100000 in
theorem impl_someNeighbours.calls (k : Nat) (a0 : Int) (a1_0 : Int) (a1_1 : Int) (a1_2 : Int) (a2 : Int) (r1 : List (S34)) (r2 : Bool) (w : World) (h : impl_someNeighbours.f k a0 a1_0 a1_1 a1_2 a2 = some (r1, r2)) :
    Calls Try.prog 153 #[.int .i64 a0, .agg #[.int .i64 a1_0, .int .i64 a1_1, .int .i64 a1_2], .int .i64 a2] w fun e w' => ∃ v0_ : Value, e = .returned (.tuple #[v0_, .bool r2]) ∧ Kd.R k34 34 w' w.heap.size (fun _ => True) v0_ r1 ∧ Below w.heap.size w w' := by
  have hu34 := Try.underlying34
  have HB := Aside0.mk (Below.refl w.heap.size w)
  have H : (impl_someNeighbours.l0 k a0 (([] : List (S34))) a2 a1_0 a1_1 a1_2) = some (r1, r2) := h
  clear h
  obtain ⟨y1119, hy1119⟩ : ∃ y_ : List (S34), y_ = (([] : List (S34))) := ⟨_, rfl⟩
  replace H : (impl_someNeighbours.l0 k a0 y1119 a2 a1_0 a1_1 a1_2) = some (r1, r2) := by first | (rw [hy1119]; with_reducible exact H) | (have H2_ := (Option.bind_some _ _).symm.trans H; rw [hy1119]; with_reducible exact H2_) | (have H2_ := (Option.bind_some _ _).symm.trans H; with_reducible exact H2_) | with_reducible exact H | (rw [hy1119]; exact H) | exact H
  have Ny1119 := Aside0.mk hy1119
  clear hy1119
  have H' := Aside0.mk H
  clear H
  go_enter Try.func153, Try.ntmps153
  go_wp2_with (first | ((with_reducible refine gate_dst (N := 4) rfl ?_); refine box_event ?hg (N := 4) ?hd (cs := #[.int .i64 a1_0, .int .i64 a1_1, .int .i64 a1_2]) (t := 34) ?hr ?_; (case hd => rfl); (case hg => rfl); (case hr => first | (go_simp; done) | (go_simp; rfl)); intro gb1118 hg w4 hbox hb; have n0_ := Aside0.mk (below_step blA hb); have n1_ := Aside0.mk (hbox); have n2_ := Aside0.mk (szA hg blA); have n3_ := Aside0.mk (szA hg blA); clear HB; have HB := n0_; have BK1118 := n1_; have GW1118 := n2_; have GE1118 := n3_; clear n0_ n1_ n2_ n3_; clear hb hbox hg) | ((with_reducible refine gate_dst (N := 12) rfl ?_); refine Kd.R_lit k34 _ 34 ?hg (N := 12) ?hd (xs := ([] : List (S34))) (inner := []) (ok := fun _ => True) (okp := fun _ => True) ?hr ?hp (fun _ hk => hk) trivial (Below.refl _ _) (Nat.le_refl _) (by simp) ?_; (case hd => rfl); (case hg => rfl); (case hr => first | (go_simp; done) | (go_simp; rfl)); (case hp => exact (Reps.none _ _)); intro v1120 w5 ho6 hb hg_ hnew_; clear hg_ hnew_; (first | rw [← Ny1119.out] at ho6 | (simp only [Int.reduceToNat] at ho6; rw [← Ny1119.out] at ho6)); have n0_ := Aside0.mk (Kd.R_lower (Kd.R_newB ho6 (bkA BK1118)) (below_size blA)); have n1_ := Aside0.mk (blk_below (bkA BK1118) hb); have n2_ := Aside0.mk (below_step blA hb); clear BK1118; clear HB; have HO1121 := n0_; have BK1118 := n1_; have HB := n2_; clear n0_ n1_ n2_; clear hb ho6))
  go_loopg [8, 9] k (fun kq v8 v9 w' => ∃ (x8_1 : List (S34)) (x9_1 : Int), v9 = .int .i64 x9_1 ∧ Aside0 (impl_someNeighbours.l0 kq a0 x8_1 x9_1 a1_0 a1_1 a1_2 = some (r1, r2)) ∧ Aside0 (kq ≤ k) ∧ Aside0 (Kd.R k34 34 w' w.heap.size (fun k_ => k_ ≠ gb1118) v8 x8_1) ∧ Aside0 (w'.heap[gb1118]? = some (.cells #[.int .i64 a1_0, .int .i64 a1_1, .int .i64 a1_2] 34 (0, 0))) ∧ Aside0 (Below w.heap.size w w'))
  case atStart => exact ⟨(y1119), (a2), (by first | rfl | (simp; done) | (simp [*]; done)), H', ⟨Nat.le_refl _⟩, ⟨by (with_reducible repeat (first | apply Kd.R_alloc | apply Kd.R_drewN | apply Kd.R_drew)); exact Kd.R_mono HO1121.out (fun _ hk => hk.2)⟩, ⟨bkA BK1118⟩, ⟨blA⟩⟩
  case round =>
    clear H'
    try clear c1
    try clear p2
    obtain ⟨x8_1, x9_1, rfl, HA, HK1, HO_8, BK1118, HB⟩ := hrel
    cases gk with
    | zero => exact absurd HA.out (by simp [impl_someNeighbours.l0])
    | succ k1 =>
      have H := HA.out
      clear HA
      simp only [impl_someNeighbours.l0] at H
      by_cases c7 : x9_1 ≤ a0
      · rw [if_pos c7] at H
        have c7b0 : decide (x9_1 ≤ a0) = true := decide_eq_true c7
        clear c7
        replace H := Option.bind_eq_some_iff.mp H
        obtain ⟨⟨t1122, t1123, t1124, t1125⟩, A80, H⟩ := H
        replace H : (if t1125 = true then (if x8_1.length < 5864062014805 then (impl_someNeighbours.l0 k1 a0 (x8_1 ++ [(⟨t1122, t1123, t1124⟩ : S34)]) (wrap64 (x9_1 + 1)) a1_0 a1_1 a1_2) else (none)) else (some (([] : List (S34)), false))) = some (r1, r2) := H
        have A8 := Aside0.mk A80
        clear A80
        by_cases c9 : t1125 = true
        · subst c9
          have H1 : (if x8_1.length < 5864062014805 then (impl_someNeighbours.l0 k1 a0 (x8_1 ++ [(⟨t1122, t1123, t1124⟩ : S34)]) (wrap64 (x9_1 + 1)) a1_0 a1_1 a1_2) else (none)) = some (r1, r2) := by rw [if_pos rfl] at H; exact H
          clear H
          have H := H1
          clear H1
          by_cases c10 : x8_1.length < 5864062014805
          · rw [if_pos c10] at H
            have LMc10 := Aside0.mk c10
            clear c10
            obtain ⟨y1127, hy1127⟩ : ∃ y_ : List (S34), y_ = (x8_1 ++ [(⟨t1122, t1123, t1124⟩ : S34)]) := ⟨_, rfl⟩
            replace H : (impl_someNeighbours.l0 k1 a0 y1127 (wrap64 (x9_1 + 1)) a1_0 a1_1 a1_2) = some (r1, r2) := by first | (rw [hy1127]; with_reducible exact H) | (have H2_ := (Option.bind_some _ _).symm.trans H; rw [hy1127]; with_reducible exact H2_) | (have H2_ := (Option.bind_some _ _).symm.trans H; with_reducible exact H2_) | with_reducible exact H | (rw [hy1127]; exact H) | exact H
            have Ny1127 := Aside0.mk hy1127
            clear hy1127
            have H' := Aside0.mk H
            clear H
            have hcz11_0 : wr.cell? ⟨gb1118, 0, none⟩ = some (.int .i64 a1_0) := (blk_cell BK1118.out 0).trans rfl
            have hcz11_1 : wr.cell? ⟨gb1118, 1, none⟩ = some (.int .i64 a1_1) := (blk_cell BK1118.out 1).trans rfl
            have hcz11_2 : wr.cell? ⟨gb1118, 2, none⟩ = some (.int .i64 a1_2) := (blk_cell BK1118.out 2).trans rfl
            have hfz11_0 := blk_frozen BK1118.out 0
            have hfz11_1 := blk_frozen BK1118.out 1
            have hfz11_2 := blk_frozen BK1118.out 2
            go_wp2_with (first | ((with_reducible refine gate_callee (f := 114) rfl ?_); refine goesL_ (some 23) rfl rfl Try.func114 (by kernel_rfl) rfl #[.int .i64 a0, .agg #[.int .i64 a1_0, .int .i64 a1_1, .int .i64 a1_2], .int .i64 x9_1] rfl (by (try simp only [List.map_toArray, List.map_cons, List.map_nil]); first | done | rfl | (simp only [List.length_drop, List.length_take]; rfl)) ?_; (with_reducible refine (impl_neighbour.calls k1 a0 a1_0 a1_1 a1_2 x9_1 t1122 t1123 t1124 true _ A8.out).mono ?_); rintro e w12 ⟨rfl, hb⟩; refine ⟨_, rfl, ?_⟩; have n0_ := Aside0.mk (Kd.R_below (by (with_reducible repeat (first | apply Kd.R_alloc | apply Kd.R_drewN | apply Kd.R_drew)); exact HO_8.out) hb); have n1_ := Aside0.mk (blk_below (bkA BK1118) hb); have n2_ := Aside0.mk (below_step blA hb); clear HO_8; clear BK1118; clear HB; have HO_8 := n0_; have BK1118 := n1_; have HB := n2_; clear n0_ n1_ n2_; (try clear hb); (try clear hb2); (try clear hk); (try clear hi)) | ((with_reducible refine gate_dst (N := 10) rfl ?_); refine box_event ?hg (N := 10) ?hd (cs := #[.int .i64 0, .int .i64 0, .int .i64 0]) (t := 34) ?hr ?_; (case hd => rfl); (case hg => rfl); (case hr => first | (go_simp; done) | (go_simp; rfl)); intro gb1126 hg w13 hbox hb; have n0_ := Aside0.mk (Kd.R_below (Kd.R_elderB (by (with_reducible repeat (first | apply Kd.R_alloc | apply Kd.R_drewN | apply Kd.R_drew)); exact HO_8.out) gb1126 (Nat.le_of_eq hg.symm)) hb); have n1_ := Aside0.mk (blk_below (bkA BK1118) hb); have n2_ := Aside0.mk (below_step blA hb); have n3_ := Aside0.mk (hbox); have n4_ := Aside0.mk (szA hg blA); have n5_ := Aside0.mk (szA hg blA); have n6_ := Aside0.mk (neA hg (bkA BK1118)); have n7_ := Aside0.mk (neB hg (bkA BK1118)); clear HO_8; clear BK1118; clear HB; have HO_8 := n0_; have BK1118 := n1_; have HB := n2_; have BK1126 := n3_; have GW1126 := n4_; have GE1126 := n5_; have NB1118_1126 := n6_; have NB1126_1118 := n7_; clear n0_ n1_ n2_ n3_ n4_ n5_ n6_ n7_; clear hb hbox hg; have hnb14 := NB1126_1118.out; have hnc14 := NB1118_1126.out; have hcz15_0 : w13.cell? ⟨gb1126, 0, none⟩ = some (.int .i64 0) := (blk_cell BK1126.out 0).trans rfl; have hcz15_1 : w13.cell? ⟨gb1126, 1, none⟩ = some (.int .i64 0) := (blk_cell BK1126.out 1).trans rfl; have hcz15_2 : w13.cell? ⟨gb1126, 2, none⟩ = some (.int .i64 0) := (blk_cell BK1126.out 2).trans rfl; have hfz15_0 := blk_frozen BK1126.out 0; have hfz15_1 := blk_frozen BK1126.out 1; have hfz15_2 := blk_frozen BK1126.out 2) | ((with_reducible refine gate_builtin (b := .append) (xs := #[.tmp 28, .tmp 30]) rfl ?_); at_builtin; refine Kd.R_append k34 (w0 := w) w.heap.size rfl (.tmp 28) (.tmp 30) 56 34 (.agg #[(.int .i64 0), (.int .i64 0), (.int .i64 0)]) 24 rfl Try.underlying56 info34 rfl (by decide) (by omega) u8 x8_1 (⟨t1122, t1123, t1124⟩ : S34) [.int .i64 t1122, .int .i64 t1123, .int .i64 t1124] (fun k_ => k_ ≠ gb1118 ∧ k_ ≠ gb1126) (fun _ => False) rfl (by first | (go_simp; done) | (go_simp; rfl)) ?aP (fun _ hk => hk.elim) ?aF ?aO ?aB ?aS ?aL ?_; (case aP => exact k34_mkM _ _ _ (⟨t1122, t1123, t1124⟩ : S34)); (case aB => exact blA); (case aF => exact (fun k_ hk => ⟨Kd.freshB (g := gb1118) (o := .cells #[.int .i64 a1_0, .int .i64 a1_1, .int .i64 a1_2] 34 (0, 0)) (by (with_reducible repeat (first | refine blk_drewN ?_ _ | refine blk_drew ?_ | refine blk_alloc ?_ _)); refine blk_far ?_ NB1118_1126.out _; (with_reducible repeat (first | refine blk_drewN ?_ _ | refine blk_drew ?_ | refine blk_alloc ?_ _)); refine blk_far ?_ NB1118_1126.out _; (with_reducible repeat (first | refine blk_drewN ?_ _ | refine blk_drew ?_ | refine blk_alloc ?_ _)); refine blk_far ?_ NB1118_1126.out _; (with_reducible repeat (first | refine blk_drewN ?_ _ | refine blk_drew ?_ | refine blk_alloc ?_ _)); exact BK1118.out) k_ hk, Kd.freshB (g := gb1126) (o := .cells #[.int .i64 t1122, .int .i64 t1123, .int .i64 t1124] 34 (0, 0)) (by (with_reducible repeat (first | refine blk_drewN ?_ _ | refine blk_drew ?_ | refine blk_alloc ?_ _)); refine blk_put (cs := #[.int .i64 t1122, .int .i64 t1123, .int .i64 0]) ?_ 2 _ rfl; (with_reducible repeat (first | refine blk_drewN ?_ _ | refine blk_drew ?_ | refine blk_alloc ?_ _)); refine blk_put (cs := #[.int .i64 t1122, .int .i64 0, .int .i64 0]) ?_ 1 _ rfl; (with_reducible repeat (first | refine blk_drewN ?_ _ | refine blk_drew ?_ | refine blk_alloc ?_ _)); refine blk_put (cs := #[.int .i64 0, .int .i64 0, .int .i64 0]) ?_ 0 _ rfl; (with_reducible repeat (first | refine blk_drewN ?_ _ | refine blk_drew ?_ | refine blk_alloc ?_ _)); exact BK1126.out) k_ hk⟩)); (case aO => exact (by (with_reducible repeat (first | apply Kd.R_alloc | apply Kd.R_drewN | apply Kd.R_drew)); exact Kd.R_mono (Kd.R_far (p := ⟨gb1126, 2, none⟩) (Kd.R_far (p := ⟨gb1126, 1, none⟩) (Kd.R_far (p := ⟨gb1126, 0, none⟩) (Kd.R_mono HO_8.out (fun k_ hk => (⟨hk, hk.2⟩ : _ ∧ k_ ≠ gb1126))) (fun _ hk => hk.2) (.int .i64 t1122)) (fun _ hk => hk.2) (.int .i64 t1123)) (fun _ hk => hk.2) (.int .i64 t1124)) (fun _ hk => ⟨hk.1.1, hk.1.2⟩))); (case aS => exact (below_size blA)); (case aL => have := LMc10.out; omega); intro v1128 w16 ho hb hg hat; rw [← Ny1127.out] at ho; have n0_ := Aside0.mk (blk_grown (g := gb1118) (o := .cells #[.int .i64 a1_0, .int .i64 a1_1, .int .i64 a1_2] 34 (0, 0)) (by (with_reducible repeat (first | refine blk_drewN ?_ _ | refine blk_drew ?_ | refine blk_alloc ?_ _)); refine blk_far ?_ NB1118_1126.out _; (with_reducible repeat (first | refine blk_drewN ?_ _ | refine blk_drew ?_ | refine blk_alloc ?_ _)); refine blk_far ?_ NB1118_1126.out _; (with_reducible repeat (first | refine blk_drewN ?_ _ | refine blk_drew ?_ | refine blk_alloc ?_ _)); refine blk_far ?_ NB1118_1126.out _; (with_reducible repeat (first | refine blk_drewN ?_ _ | refine blk_drew ?_ | refine blk_alloc ?_ _)); exact BK1118.out) hg (Kd.R_away HO_8.out (fun _ hk => hk.1))); have n1_ := Aside0.mk (blk_grown (g := gb1126) (o := .cells #[.int .i64 t1122, .int .i64 t1123, .int .i64 t1124] 34 (0, 0)) (by (with_reducible repeat (first | refine blk_drewN ?_ _ | refine blk_drew ?_ | refine blk_alloc ?_ _)); refine blk_put (cs := #[.int .i64 t1122, .int .i64 t1123, .int .i64 0]) ?_ 2 _ rfl; (with_reducible repeat (first | refine blk_drewN ?_ _ | refine blk_drew ?_ | refine blk_alloc ?_ _)); refine blk_put (cs := #[.int .i64 t1122, .int .i64 0, .int .i64 0]) ?_ 1 _ rfl; (with_reducible repeat (first | refine blk_drewN ?_ _ | refine blk_drew ?_ | refine blk_alloc ?_ _)); refine blk_put (cs := #[.int .i64 0, .int .i64 0, .int .i64 0]) ?_ 0 _ rfl; (with_reducible repeat (first | refine blk_drewN ?_ _ | refine blk_drew ?_ | refine blk_alloc ?_ _)); exact BK1126.out) hg (Kd.R_away HO_8.out (fun _ hk => hk.2))); have n2_ := Aside0.mk (hb); have n3_ := Aside0.mk (ho); clear BK1118; clear BK1126; clear HB; clear HO_8; have BK1118 := n0_; have BK1126 := n1_; have HB := n2_; have HO1129 := n3_; clear n0_ n1_ n2_ n3_; clear ho hb hg hat))
            go_roundg k1
            case measure => have := HK1.out; omega
            case rel => exact ⟨(y1127), (wrap64 (x9_1 + 1)), (by first | rfl | (simp; done) | (simp [*]; done)), H', ⟨by have := HK1.out; omega⟩, ⟨by (with_reducible repeat (first | apply Kd.R_alloc | apply Kd.R_drewN | apply Kd.R_drew)); exact Kd.R_mono HO1129.out (fun _ hk => hk.1)⟩, ⟨bkA BK1118⟩, ⟨blA⟩⟩
          · rw [if_neg c10] at H
            exact absurd H (by simp)
        · replace c9 := Bool.eq_false_iff.mpr c9
          subst c9
          have H1 : (some (([] : List (S34)), false)) = some (r1, r2) := by rw [if_neg (show ¬ (false = true) by decide)] at H; exact H
          clear H
          have H := H1
          clear H1
          simp only [Option.some.injEq, Prod.mk.injEq] at H
          obtain ⟨rfl, rfl⟩ := H
          have hcz17_0 : wr.cell? ⟨gb1118, 0, none⟩ = some (.int .i64 a1_0) := (blk_cell BK1118.out 0).trans rfl
          have hcz17_1 : wr.cell? ⟨gb1118, 1, none⟩ = some (.int .i64 a1_1) := (blk_cell BK1118.out 1).trans rfl
          have hcz17_2 : wr.cell? ⟨gb1118, 2, none⟩ = some (.int .i64 a1_2) := (blk_cell BK1118.out 2).trans rfl
          have hfz17_0 := blk_frozen BK1118.out 0
          have hfz17_1 := blk_frozen BK1118.out 1
          have hfz17_2 := blk_frozen BK1118.out 2
          go_wp2_with (first | ((with_reducible refine gate_callee (f := 114) rfl ?_); refine goesL_ (some 23) rfl rfl Try.func114 (by kernel_rfl) rfl #[.int .i64 a0, .agg #[.int .i64 a1_0, .int .i64 a1_1, .int .i64 a1_2], .int .i64 x9_1] rfl (by (try simp only [List.map_toArray, List.map_cons, List.map_nil]); first | done | rfl | (simp only [List.length_drop, List.length_take]; rfl)) ?_; (with_reducible refine (impl_neighbour.calls k1 a0 a1_0 a1_1 a1_2 x9_1 t1122 t1123 t1124 false _ A8.out).mono ?_); rintro e w18 ⟨rfl, hb⟩; refine ⟨_, rfl, ?_⟩; have n0_ := Aside0.mk (Kd.R_below (by (with_reducible repeat (first | apply Kd.R_alloc | apply Kd.R_drewN | apply Kd.R_drew)); exact HO_8.out) hb); have n1_ := Aside0.mk (blk_below (bkA BK1118) hb); have n2_ := Aside0.mk (below_step blA hb); clear HO_8; clear BK1118; clear HB; have HO_8 := n0_; have BK1118 := n1_; have HB := n2_; clear n0_ n1_ n2_; (try clear hb); (try clear hb2); (try clear hk); (try clear hi)) | ((with_reducible refine gate_dst (N := 10) rfl ?_); refine box_event ?hg (N := 10) ?hd (cs := #[.int .i64 0, .int .i64 0, .int .i64 0]) (t := 34) ?hr ?_; (case hd => rfl); (case hg => rfl); (case hr => first | (go_simp; done) | (go_simp; rfl)); intro gb1126 hg w19 hbox hb; have n0_ := Aside0.mk (Kd.R_below (Kd.R_elderB (by (with_reducible repeat (first | apply Kd.R_alloc | apply Kd.R_drewN | apply Kd.R_drew)); exact HO_8.out) gb1126 (Nat.le_of_eq hg.symm)) hb); have n1_ := Aside0.mk (blk_below (bkA BK1118) hb); have n2_ := Aside0.mk (below_step blA hb); have n3_ := Aside0.mk (hbox); have n4_ := Aside0.mk (szA hg blA); have n5_ := Aside0.mk (szA hg blA); have n6_ := Aside0.mk (neA hg (bkA BK1118)); have n7_ := Aside0.mk (neB hg (bkA BK1118)); clear HO_8; clear BK1118; clear HB; have HO_8 := n0_; have BK1118 := n1_; have HB := n2_; have BK1126 := n3_; have GW1126 := n4_; have GE1126 := n5_; have NB1118_1126 := n6_; have NB1126_1118 := n7_; clear n0_ n1_ n2_ n3_ n4_ n5_ n6_ n7_; clear hb hbox hg; have hnb20 := NB1126_1118.out; have hnc20 := NB1118_1126.out; have hcz21_0 : w19.cell? ⟨gb1126, 0, none⟩ = some (.int .i64 0) := (blk_cell BK1126.out 0).trans rfl; have hcz21_1 : w19.cell? ⟨gb1126, 1, none⟩ = some (.int .i64 0) := (blk_cell BK1126.out 1).trans rfl; have hcz21_2 : w19.cell? ⟨gb1126, 2, none⟩ = some (.int .i64 0) := (blk_cell BK1126.out 2).trans rfl; have hfz21_0 := blk_frozen BK1126.out 0; have hfz21_1 := blk_frozen BK1126.out 1; have hfz21_2 := blk_frozen BK1126.out 2))
          go_ret2
          exact ⟨_, by first | rfl | (simp [errW_none, errW_some] <;> rfl) | (simp [*, errW_none, errW_some] <;> rfl), by first | exact Kd.R_nil _ _ _ _ _ | exact Kd.N_nil _ _ _ _ _ | exact Kd.V_nil _ _ _ _ _ | exact Kd.Q_nil _ _ _ _ _ | exact Kd.S_nil _ _ _ _ _, blA⟩
      · rw [if_neg c7] at H
        have c7b0 : decide (x9_1 ≤ a0) = false := decide_eq_false c7
        clear c7
        simp only [Option.some.injEq, Prod.mk.injEq] at H
        obtain ⟨rfl, rfl⟩ := H
        go_wp2
        go_ret2
        exact ⟨_, by first | rfl | (simp [errW_none, errW_some] <;> rfl) | (simp [*, errW_none, errW_some] <;> rfl), by (with_reducible repeat (first | apply Kd.R_alloc | apply Kd.R_drewN | apply Kd.R_drew)); exact Kd.R_mono HO_8.out (fun _ hk => trivial), blA⟩
end Go.Proofs.Ytfkglijnbgijbaa.PAll
