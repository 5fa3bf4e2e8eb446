-- turned for this claim out of the kit's print: the same functions, packed anew
import Derived.Test.YtccpccnnbacgjaaQx
import Derived.Test.YtccpccnnbacgjaaQLtoBall
namespace Go.Proofs.Ytccpccnnbacgjaa.PAll
open Go.RowKit Go.Proofs.YtccpccnnbacgjaaW.PrintWords Go.Proofs.YtccpccnnbacgjaaW.PrintLast Go.Proofs.YtccpccnnbacgjaaW.PrintMore
attribute [local go_sem] Go.Proofs.Ytccpccnnbacgjaa.Aux.setCell_drewN Go.Proofs.Ytccpccnnbacgjaa.Aux.isSome_setCell max2_int min2_int max_two min_two max_three min_three max_four min_four   -- for this text's walks alone
set_option linter.unusedVariables false
set_option linter.unusedSimpArgs false
/-! ### impl_unit: function 150 -/
def impl_unit.f (k : Nat) (a0 : Int) (a1 : Int) : Option (Int) := (impl_valuation.f k a0 a1).bind fun t344 => ((impl_power.f k a0 t344).bind fun t345 => (if t345 = 0 then (none) else (some (wrap64 (Int.tdiv a1 t345)))))
theorem impl_unit.mono : ∀ a0 a1 k, LeO (impl_unit.f k a0 a1) (impl_unit.f (k + 1) a0 a1) := by
 intro a0 a1 k
 unfold impl_unit.f
 repeat' first
   | (with_reducible exact impl_power.mono _ _ _)
   | (with_reducible exact impl_valuation.mono _ _ _)
   | (with_reducible exact LeO.refl _)
   | (with_reducible exact LeO.none _)
   | (with_reducible refine LeO.ite ?_ ?_)
   | (with_reducible refine LeO.bind ?_ (fun _ => ?_))
set_option maxHeartbeats 8000000 in
set_option maxRecDepth 100000 in
theorem impl_unit.calls (k : Nat) (a0 : Int) (a1 : Int) (r : Int) (w : World) (h : impl_unit.f k a0 a1 = some r) :
  Calls Try.prog 150 #[.int .i64 a0, .int .i64 a1] w fun e w' => e = .returned (.int .i64 r) ∧ Drawn0 w w' := by
 have H := h
 unfold impl_unit.f at H
 clear h
 replace H := bS H
 obtain ⟨t344, A3, H⟩ := H
 try dsimp only at H
 replace H := bS H
 obtain ⟨t345, A4, H⟩ := H
 try dsimp only at H
 by_cases c5 : t345 = 0
 ·
  rw [if_pos c5] at H
  exact absurd H (by simp)
 ·
  rw [if_neg c5] at H
  have c5b0 : (t345 == 0) = false := beq_eq_false_iff_ne.mpr c5
  have c5b1 : (t345 != 0) = true := bne_iff_ne.mpr c5
  obtain rfl := Option.some.inj H
  go_enter Try.func150, Try.ntmps150
  go_wp2_with (first | ((with_reducible refine gate_callee (f := 123) rfl ?_); refine goesL_ (some 9) rfl rfl Try.func123 (by kernel_rfl) rfl #[.int .i64 a0, .int .i64 a1] rfl hA ?_; (with_reducible refine (impl_valuation.calls k a0 a1 t344 _ A3.out).mono ?_); rintro e w' ⟨rfl, ⟨nd, rfl⟩⟩; refine ⟨_, rfl, ?_⟩) | ((with_reducible refine gate_callee (f := 93) rfl ?_); refine goesL_ (some 10) rfl rfl Try.func93 (by kernel_rfl) rfl #[.int .i64 a0, .int .i64 t344] rfl hA ?_; (with_reducible refine (impl_power.calls k a0 t344 t345 _ A4.out).mono ?_); rintro e w' ⟨rfl, ⟨nd, rfl⟩⟩; refine ⟨_, rfl, ?_⟩))
  go_ret
  exact ⟨by first | rfl | (simp; done) | (simp [*]; done), by repeat (first | exact Drawn0.refl _ | apply Drawn0.step)⟩
/-! ### impl_inverse: function 151 -/
def impl_inverse.l0 : Nat → Int → Int → Int → Int → Int → Option (Int)
 | 0, _, _, _, _, _ => none
 | k + 1, x1, x5, x6, x7, x8 => if x6 = 0 then ((impl_mod.f x7 x1).bind fun t347 => (some t347)) else (impl_inverse.l0 k x1 x6 (wrap64 (x5 - (wrap64 ((wrap64 (Int.tdiv x5 x6)) * x6)))) x8 (wrap64 (x7 - (wrap64 ((wrap64 (Int.tdiv x5 x6)) * x8)))))
def impl_inverse.f (k : Nat) (a0 : Int) (a1 : Int) : Option (Int) := (impl_mod.f a0 a1).bind fun t346 => (impl_inverse.l0 k a1 t346 a1 1 0)
theorem impl_inverse.mono_l : ∀ k, (∀ y0 y1 y2 y3 y4, LeO (impl_inverse.l0 k y0 y1 y2 y3 y4) (impl_inverse.l0 (k + 1) y0 y1 y2 y3 y4))
 | 0 => fun _ _ _ _ _ r h => by simp [impl_inverse.l0] at h
 | k + 1 => by
  have ih0 := impl_inverse.mono_l k
  ·
   intro y0 y1 y2 y3 y4
   unfold impl_inverse.l0
   repeat' first
   | (with_reducible exact ih0 _ _ _ _ _)
   | (with_reducible exact LeO.refl _)
   | (with_reducible exact LeO.none _)
   | (with_reducible refine LeO.ite ?_ ?_)
   | (with_reducible refine LeO.bind ?_ (fun _ => ?_))
theorem impl_inverse.mono : ∀ a0 a1 k, LeO (impl_inverse.f k a0 a1) (impl_inverse.f (k + 1) a0 a1) := by
 intro a0 a1 k
 have ih0 := impl_inverse.mono_l k
 unfold impl_inverse.f
 repeat' first
   | (with_reducible exact ih0 _ _ _ _ _)
   | (with_reducible exact LeO.refl _)
   | (with_reducible exact LeO.none _)
   | (with_reducible refine LeO.ite ?_ ?_)
   | (with_reducible refine LeO.bind ?_ (fun _ => ?_))
set_option maxHeartbeats 8000000 in
set_option maxRecDepth 100000 in
theorem impl_inverse.calls (k : Nat) (a0 : Int) (a1 : Int) (r : Int) (w : World) (h : impl_inverse.f k a0 a1 = some r) :
  Calls Try.prog 151 #[.int .i64 a0, .int .i64 a1] w fun e w' => e = .returned (.int .i64 r) ∧ Drawn0 w w' := by
 have H := h
 unfold impl_inverse.f at H
 clear h
 replace H := bS H
 obtain ⟨t346, A3, H⟩ := H
 try dsimp only at H
 have H' := Aside0.mk H
 clear H
 go_enter Try.func151, Try.ntmps151
 go_wp2_with (first | ((with_reducible refine gate_callee (f := 155) rfl ?_); refine goesL_ (some 12) rfl rfl Try.func155 (by kernel_rfl) rfl #[.int .i64 a0, .int .i64 a1] rfl hA ?_; (with_reducible refine (impl_mod.calls a0 a1 t346 _ A3.out).mono ?_); rintro e w' ⟨rfl, ⟨nd, rfl⟩⟩; refine ⟨_, rfl, ?_⟩))
 go_loopg [5, 6, 7, 8] k (fun kq v5 v6 v7 v8 w' => ∃ (x5_1 : Int) (x6_1 : Int) (x7_1 : Int) (x8_1 : Int), v5 = .int .i64 x5_1 ∧ v6 = .int .i64 x6_1 ∧ v7 = .int .i64 x7_1 ∧ v8 = .int .i64 x8_1 ∧ Aside0 (impl_inverse.l0 kq a1 x5_1 x6_1 x7_1 x8_1 = some r) ∧ Aside0 (kq ≤ k) ∧ Drawn0 w w')
 case atStart => exact ⟨(t346), (a1), (1), (0), hB, hB, hB, hB, H', ⟨Nat.le_refl _⟩, by repeat (first | exact Drawn0.refl _ | apply Drawn0.step)⟩
 case round =>
  clear H'
  obtain ⟨x5_1, x6_1, x7_1, x8_1, rfl, rfl, rfl, rfl, HA, HK1, ⟨m1, rfl⟩⟩ := hrel
  cases gk with
  | zero => exact absurd HA.out (by simp [impl_inverse.l0])
  | succ k1 =>
   have H := HA.out
   clear HA
   simp only [impl_inverse.l0] at H
   by_cases c4 : x6_1 = 0
   ·
    rw [if_pos c4] at H
    have c4b0 : (x6_1 == 0) = true := beq_iff_eq.mpr c4
    have c4b1 : (x6_1 != 0) = false := bne_eq_false_iff_eq.mpr c4
    clear c4
    replace H := bS H
    obtain ⟨t347, A5, H⟩ := H
    try dsimp only at H
    obtain rfl := Option.some.inj H
    go_wp2_with (first | ((with_reducible refine gate_callee (f := 155) rfl ?_); refine goesL_ (some 33) rfl rfl Try.func155 (by kernel_rfl) rfl #[.int .i64 x7_1, .int .i64 a1] rfl hA ?_; (with_reducible refine (impl_mod.calls x7_1 a1 t347 _ A5.out).mono ?_); rintro e w' ⟨rfl, ⟨nd, rfl⟩⟩; refine ⟨_, rfl, ?_⟩))
    go_ret
    exact ⟨by first | rfl | (simp; done) | (simp [*]; done), by repeat (first | exact Drawn0.refl _ | apply Drawn0.step)⟩
   ·
    rw [if_neg c4] at H
    have c4b0 : (x6_1 == 0) = false := beq_eq_false_iff_ne.mpr c4
    have c4b1 : (x6_1 != 0) = true := bne_iff_ne.mpr c4
    have H' := Aside0.mk H
    clear H
    go_wp2
    go_roundg k1
    case measure => have := HK1.out; omega
    case rel => exact ⟨(x6_1), (wrap64 (x5_1 - (wrap64 ((wrap64 (Int.tdiv x5_1 x6_1)) * x6_1)))), (x8_1), (wrap64 (x7_1 - (wrap64 ((wrap64 (Int.tdiv x5_1 x6_1)) * x8_1)))), hB, hB, hB, hB, H', ⟨by have := HK1.out; omega⟩, by repeat (first | exact Drawn0.refl _ | apply Drawn0.step)⟩
/-! ### impl_IsBall: function 35 -/
def impl_IsBall.j0 : Nat → Int → Bool → Int → Int → Int → Option (Bool)
 | 0, _, _, _, _, _ => none
 | k + 1, x0, x24, x536000, x536001, x536002 => if x24 = true then (some false) else (if (wrap64 (x536000 + x536002)) ≤ 0 then (if x536001 = 0 then (some (x536002 == 0)) else (some false)) else (if x536001 ≥ 0 then ((impl_power.f k x0 (wrap64 (x536000 + x536002))).bind fun t538 => (if x536001 < t538 then (if x536002 = 0 then (some true) else (if x0 = 0 then (none) else (some ((Int.tmod x536001 x0) != 0)))) else (some false))) else (some false)))
def impl_IsBall.f (k : Nat) (a0 : Int) (a1_0 : Int) (a1_1 : Int) (a1_2 : Int) : Option (Bool) := (impl_isPrime.f a0).bind fun t536 => (if t536 = true then ((impl_isLevel.f a1_0).bind fun t537 => (if t537 = true then (if a1_2 < 0 then (impl_IsBall.j0 k a0 true a1_0 a1_1 a1_2) else (impl_IsBall.j0 k a0 (decide (a1_2 > 6)) a1_0 a1_1 a1_2)) else (impl_IsBall.j0 k a0 true a1_0 a1_1 a1_2))) else (impl_IsBall.j0 k a0 true a1_0 a1_1 a1_2))
theorem impl_IsBall.mono_l : ∀ k, (∀ y0 y1 y2 y3 y4, LeO (impl_IsBall.j0 k y0 y1 y2 y3 y4) (impl_IsBall.j0 (k + 1) y0 y1 y2 y3 y4))
 | 0 => fun _ _ _ _ _ r h => by simp [impl_IsBall.j0] at h
 | k + 1 => by
  have ih0 := impl_IsBall.mono_l k
  ·
   intro y0 y1 y2 y3 y4
   unfold impl_IsBall.j0
   repeat' first
   | (with_reducible exact ih0 _ _ _ _ _)
   | (with_reducible exact impl_power.mono _ _ _)
   | (with_reducible exact LeO.refl _)
   | (with_reducible exact LeO.none _)
   | (with_reducible refine LeO.ite ?_ ?_)
   | (with_reducible refine LeO.bind ?_ (fun _ => ?_))
theorem impl_IsBall.mono : ∀ a0 a1 a2 a3 k, LeO (impl_IsBall.f k a0 a1 a2 a3) (impl_IsBall.f (k + 1) a0 a1 a2 a3) := by
 intro a0 a1 a2 a3 k
 have ih0 := impl_IsBall.mono_l k
 unfold impl_IsBall.f
 repeat' first
   | (with_reducible exact ih0 _ _ _ _ _)
   | (with_reducible exact impl_power.mono _ _ _)
   | (with_reducible exact LeO.refl _)
   | (with_reducible exact LeO.none _)
   | (with_reducible refine LeO.ite ?_ ?_)
   | (with_reducible refine LeO.bind ?_ (fun _ => ?_))
set_option maxHeartbeats 8000000 in
set_option maxRecDepth 100000 in
theorem impl_IsBall.calls (k : Nat) (a0 : Int) (a1_0 : Int) (a1_1 : Int) (a1_2 : Int) (r : Bool) (w : World) (h : impl_IsBall.f k a0 a1_0 a1_1 a1_2 = some r) :
  Calls Try.prog 35 #[.int .i64 a0, .agg #[.int .i64 a1_0, .int .i64 a1_1, .int .i64 a1_2]] w fun e w' => e = .returned (.bool r) ∧ Below w.heap.size w w' := by
 have hu39 := Try.underlying39
 have HB := Aside0.mk (Below.refl w.heap.size w)
 have H := h
 unfold impl_IsBall.f at H
 clear h
 have HC3 := Aside0.mk H
 clear H
 go_enter Try.func35, Try.ntmps35
 go_upto_region 1 with (first | ((with_reducible refine gate_dst (N := 3) rfl ?_); refine box_event ?hg (N := 3) ?hd (cs := #[.int .i64 a1_0, .int .i64 a1_1, .int .i64 a1_2]) (t := 39) ?hr ?_; (case hd => rfl); (case hg => rfl); (case hr => first | (go_simp; done) | (go_simp; rfl)); intro gb535 hg w4 hbox hb; have BK535 := Aside0.mk (hbox); have GW535 := sA hg; have GE535 := sA hg; replace HB := lB hb; clear hb hbox hg))
 repeat (go_quiet (first | ((with_reducible refine gate_dst (N := 3) rfl ?_); refine box_event ?hg (N := 3) ?hd (cs := #[.int .i64 a1_0, .int .i64 a1_1, .int .i64 a1_2]) (t := 39) ?hr ?_; (case hd => rfl); (case hg => rfl); (case hr => first | (go_simp; done) | (go_simp; rfl)); intro gb535 hg w4 hbox hb; have BK535 := Aside0.mk (hbox); have GW535 := sA hg; have GE535 := sA hg; replace HB := lB hb; clear hb hbox hg)); go_upto_region 1 with (first | ((with_reducible refine gate_dst (N := 3) rfl ?_); refine box_event ?hg (N := 3) ?hd (cs := #[.int .i64 a1_0, .int .i64 a1_1, .int .i64 a1_2]) (t := 39) ?hr ?_; (case hd => rfl); (case hg => rfl); (case hr => first | (go_simp; done) | (go_simp; rfl)); intro gb535 hg w4 hbox hb; have BK535 := Aside0.mk (hbox); have GW535 := sA hg; have GE535 := sA hg; replace HB := lB hb; clear hb hbox hg)))
 (try simp only [Act.put, List.setIfInBounds_toArray, List.set_cons_zero, List.set_cons_succ])
 go_cut [24] (fun v24 wc => ∃ (kq : Nat) (x24_2 : Bool), v24 = .bool x24_2 ∧ Aside0 (impl_IsBall.j0 kq a0 x24_2 a1_0 a1_1 a1_2 = some r) ∧ Aside0 (kq ≤ k) ∧ Aside0 (wc.heap[gb535]? = some (.cells #[.int .i64 a1_0, .int .i64 a1_1, .int .i64 a1_2] 39 (0, 0))) ∧ Aside0 (Below w.heap.size w wc))
 case first =>
  have H := HC3.out
  clear HC3
  replace H := bS H
  obtain ⟨t536, A5, H⟩ := H
  try dsimp only at H
  by_cases c6 : t536 = true
  ·
   subst c6
   rw [if_pos rfl] at H
   try dsimp only at H
   replace H := bS H
   obtain ⟨t537, A7, H⟩ := H
   try dsimp only at H
   by_cases c8 : t537 = true
   ·
    subst c8
    rw [if_pos rfl] at H
    try dsimp only at H
    by_cases c9 : a1_2 < 0
    ·
     rw [if_pos c9] at H
     have c9b0 := decide_eq_true c9
     clear c9
     (first | rw [c9b0] | (simp only [i64_w, i32_w]; rw [c9b0]) | skip)
     have H' := Aside0.mk H
     clear H
     go_wp2_with (first | (go_at_call 91; (with_reducible refine (impl_isPrime.calls a0 true _ A5.out).mono ?_); rintro e w' ⟨rfl, ⟨nd, rfl⟩⟩; (try first | exact ⟨rfl, _, World.drewN_drewN _ _ _⟩ | exact ⟨rfl, _, Eq.trans (World.drewN_drewN _ _ _) (congrArg (World.drewN _) (Nat.add_assoc _ _ _))⟩); have hcz10_0 : w4.cell? ⟨gb535, 0, none⟩ = some (.int .i64 a1_0) := cA BK535 0; have hcz10_1 : w4.cell? ⟨gb535, 1, none⟩ = some (.int .i64 a1_1) := cA BK535 1; have hcz10_2 : w4.cell? ⟨gb535, 2, none⟩ = some (.int .i64 a1_2) := cA BK535 2; have hfz10_0 := blk_frozen BK535.out 0; have hfz10_1 := blk_frozen BK535.out 1; have hfz10_2 := blk_frozen BK535.out 2) | (go_at_call 92; (with_reducible refine (impl_isLevel.calls a1_0 true _ A7.out).mono ?_); rintro e w' ⟨rfl, ⟨nd, rfl⟩⟩; (try first | exact ⟨rfl, _, World.drewN_drewN _ _ _⟩ | exact ⟨rfl, _, Eq.trans (World.drewN_drewN _ _ _) (congrArg (World.drewN _) (Nat.add_assoc _ _ _))⟩)))
     repeat (go_quiet (first | (go_at_call 91; (with_reducible refine (impl_isPrime.calls a0 true _ A5.out).mono ?_); rintro e w' ⟨rfl, ⟨nd, rfl⟩⟩; (try first | exact ⟨rfl, _, World.drewN_drewN _ _ _⟩ | exact ⟨rfl, _, Eq.trans (World.drewN_drewN _ _ _) (congrArg (World.drewN _) (Nat.add_assoc _ _ _))⟩); have hcz10_0 : w4.cell? ⟨gb535, 0, none⟩ = some (.int .i64 a1_0) := cA BK535 0; have hcz10_1 : w4.cell? ⟨gb535, 1, none⟩ = some (.int .i64 a1_1) := cA BK535 1; have hcz10_2 : w4.cell? ⟨gb535, 2, none⟩ = some (.int .i64 a1_2) := cA BK535 2; have hfz10_0 := blk_frozen BK535.out 0; have hfz10_1 := blk_frozen BK535.out 1; have hfz10_2 := blk_frozen BK535.out 2) | (go_at_call 92; (with_reducible refine (impl_isLevel.calls a1_0 true _ A7.out).mono ?_); rintro e w' ⟨rfl, ⟨nd, rfl⟩⟩; (try first | exact ⟨rfl, _, World.drewN_drewN _ _ _⟩ | exact ⟨rfl, _, Eq.trans (World.drewN_drewN _ _ _) (congrArg (World.drewN _) (Nat.add_assoc _ _ _))⟩))); try go_wp2_with (first | (go_at_call 91; (with_reducible refine (impl_isPrime.calls a0 true _ A5.out).mono ?_); rintro e w' ⟨rfl, ⟨nd, rfl⟩⟩; (try first | exact ⟨rfl, _, World.drewN_drewN _ _ _⟩ | exact ⟨rfl, _, Eq.trans (World.drewN_drewN _ _ _) (congrArg (World.drewN _) (Nat.add_assoc _ _ _))⟩); have hcz10_0 : w4.cell? ⟨gb535, 0, none⟩ = some (.int .i64 a1_0) := cA BK535 0; have hcz10_1 : w4.cell? ⟨gb535, 1, none⟩ = some (.int .i64 a1_1) := cA BK535 1; have hcz10_2 : w4.cell? ⟨gb535, 2, none⟩ = some (.int .i64 a1_2) := cA BK535 2; have hfz10_0 := blk_frozen BK535.out 0; have hfz10_1 := blk_frozen BK535.out 1; have hfz10_2 := blk_frozen BK535.out 2) | (go_at_call 92; (with_reducible refine (impl_isLevel.calls a1_0 true _ A7.out).mono ?_); rintro e w' ⟨rfl, ⟨nd, rfl⟩⟩; (try first | exact ⟨rfl, _, World.drewN_drewN _ _ _⟩ | exact ⟨rfl, _, Eq.trans (World.drewN_drewN _ _ _) (congrArg (World.drewN _) (Nat.add_assoc _ _ _))⟩))))
     go_meet
     case rel => exact ⟨_, (true), hB, H', ⟨by first | omega | exact Nat.le_refl _⟩, ⟨bkA BK535⟩, ⟨blA⟩⟩
    ·
     rw [if_neg c9] at H
     have c9b0 := decide_eq_false c9
     clear c9
     (first | rw [c9b0] | (simp only [i64_w, i32_w]; rw [c9b0]) | skip)
     have H' := Aside0.mk H
     clear H
     go_wp2_with (first | (go_at_call 91; (with_reducible refine (impl_isPrime.calls a0 true _ A5.out).mono ?_); rintro e w' ⟨rfl, ⟨nd, rfl⟩⟩; (try first | exact ⟨rfl, _, World.drewN_drewN _ _ _⟩ | exact ⟨rfl, _, Eq.trans (World.drewN_drewN _ _ _) (congrArg (World.drewN _) (Nat.add_assoc _ _ _))⟩); have hcz11_0 : w4.cell? ⟨gb535, 0, none⟩ = some (.int .i64 a1_0) := cA BK535 0; have hcz11_1 : w4.cell? ⟨gb535, 1, none⟩ = some (.int .i64 a1_1) := cA BK535 1; have hcz11_2 : w4.cell? ⟨gb535, 2, none⟩ = some (.int .i64 a1_2) := cA BK535 2; have hfz11_0 := blk_frozen BK535.out 0; have hfz11_1 := blk_frozen BK535.out 1; have hfz11_2 := blk_frozen BK535.out 2) | (go_at_call 92; (with_reducible refine (impl_isLevel.calls a1_0 true _ A7.out).mono ?_); rintro e w' ⟨rfl, ⟨nd, rfl⟩⟩; (try first | exact ⟨rfl, _, World.drewN_drewN _ _ _⟩ | exact ⟨rfl, _, Eq.trans (World.drewN_drewN _ _ _) (congrArg (World.drewN _) (Nat.add_assoc _ _ _))⟩)))
     repeat (go_quiet (first | (go_at_call 91; (with_reducible refine (impl_isPrime.calls a0 true _ A5.out).mono ?_); rintro e w' ⟨rfl, ⟨nd, rfl⟩⟩; (try first | exact ⟨rfl, _, World.drewN_drewN _ _ _⟩ | exact ⟨rfl, _, Eq.trans (World.drewN_drewN _ _ _) (congrArg (World.drewN _) (Nat.add_assoc _ _ _))⟩); have hcz11_0 : w4.cell? ⟨gb535, 0, none⟩ = some (.int .i64 a1_0) := cA BK535 0; have hcz11_1 : w4.cell? ⟨gb535, 1, none⟩ = some (.int .i64 a1_1) := cA BK535 1; have hcz11_2 : w4.cell? ⟨gb535, 2, none⟩ = some (.int .i64 a1_2) := cA BK535 2; have hfz11_0 := blk_frozen BK535.out 0; have hfz11_1 := blk_frozen BK535.out 1; have hfz11_2 := blk_frozen BK535.out 2) | (go_at_call 92; (with_reducible refine (impl_isLevel.calls a1_0 true _ A7.out).mono ?_); rintro e w' ⟨rfl, ⟨nd, rfl⟩⟩; (try first | exact ⟨rfl, _, World.drewN_drewN _ _ _⟩ | exact ⟨rfl, _, Eq.trans (World.drewN_drewN _ _ _) (congrArg (World.drewN _) (Nat.add_assoc _ _ _))⟩))); try go_wp2_with (first | (go_at_call 91; (with_reducible refine (impl_isPrime.calls a0 true _ A5.out).mono ?_); rintro e w' ⟨rfl, ⟨nd, rfl⟩⟩; (try first | exact ⟨rfl, _, World.drewN_drewN _ _ _⟩ | exact ⟨rfl, _, Eq.trans (World.drewN_drewN _ _ _) (congrArg (World.drewN _) (Nat.add_assoc _ _ _))⟩); have hcz11_0 : w4.cell? ⟨gb535, 0, none⟩ = some (.int .i64 a1_0) := cA BK535 0; have hcz11_1 : w4.cell? ⟨gb535, 1, none⟩ = some (.int .i64 a1_1) := cA BK535 1; have hcz11_2 : w4.cell? ⟨gb535, 2, none⟩ = some (.int .i64 a1_2) := cA BK535 2; have hfz11_0 := blk_frozen BK535.out 0; have hfz11_1 := blk_frozen BK535.out 1; have hfz11_2 := blk_frozen BK535.out 2) | (go_at_call 92; (with_reducible refine (impl_isLevel.calls a1_0 true _ A7.out).mono ?_); rintro e w' ⟨rfl, ⟨nd, rfl⟩⟩; (try first | exact ⟨rfl, _, World.drewN_drewN _ _ _⟩ | exact ⟨rfl, _, Eq.trans (World.drewN_drewN _ _ _) (congrArg (World.drewN _) (Nat.add_assoc _ _ _))⟩))))
     go_meet
     case rel => exact ⟨_, (decide (a1_2 > 6)), hB, H', ⟨by first | omega | exact Nat.le_refl _⟩, ⟨bkA BK535⟩, ⟨blA⟩⟩
   ·
    replace c8 := Bool.eq_false_iff.mpr c8
    subst c8
    rw [if_neg (show ¬ (false = true) by decide)] at H
    try dsimp only at H
    have H' := Aside0.mk H
    clear H
    go_wp2_with (first | (go_at_call 91; (with_reducible refine (impl_isPrime.calls a0 true _ A5.out).mono ?_); rintro e w' ⟨rfl, ⟨nd, rfl⟩⟩; (try first | exact ⟨rfl, _, World.drewN_drewN _ _ _⟩ | exact ⟨rfl, _, Eq.trans (World.drewN_drewN _ _ _) (congrArg (World.drewN _) (Nat.add_assoc _ _ _))⟩); have hcz12_0 : w4.cell? ⟨gb535, 0, none⟩ = some (.int .i64 a1_0) := cA BK535 0; have hcz12_1 : w4.cell? ⟨gb535, 1, none⟩ = some (.int .i64 a1_1) := cA BK535 1; have hcz12_2 : w4.cell? ⟨gb535, 2, none⟩ = some (.int .i64 a1_2) := cA BK535 2; have hfz12_0 := blk_frozen BK535.out 0; have hfz12_1 := blk_frozen BK535.out 1; have hfz12_2 := blk_frozen BK535.out 2) | (go_at_call 92; (with_reducible refine (impl_isLevel.calls a1_0 false _ A7.out).mono ?_); rintro e w' ⟨rfl, ⟨nd, rfl⟩⟩; (try first | exact ⟨rfl, _, World.drewN_drewN _ _ _⟩ | exact ⟨rfl, _, Eq.trans (World.drewN_drewN _ _ _) (congrArg (World.drewN _) (Nat.add_assoc _ _ _))⟩)))
    repeat (go_quiet (first | (go_at_call 91; (with_reducible refine (impl_isPrime.calls a0 true _ A5.out).mono ?_); rintro e w' ⟨rfl, ⟨nd, rfl⟩⟩; (try first | exact ⟨rfl, _, World.drewN_drewN _ _ _⟩ | exact ⟨rfl, _, Eq.trans (World.drewN_drewN _ _ _) (congrArg (World.drewN _) (Nat.add_assoc _ _ _))⟩); have hcz12_0 : w4.cell? ⟨gb535, 0, none⟩ = some (.int .i64 a1_0) := cA BK535 0; have hcz12_1 : w4.cell? ⟨gb535, 1, none⟩ = some (.int .i64 a1_1) := cA BK535 1; have hcz12_2 : w4.cell? ⟨gb535, 2, none⟩ = some (.int .i64 a1_2) := cA BK535 2; have hfz12_0 := blk_frozen BK535.out 0; have hfz12_1 := blk_frozen BK535.out 1; have hfz12_2 := blk_frozen BK535.out 2) | (go_at_call 92; (with_reducible refine (impl_isLevel.calls a1_0 false _ A7.out).mono ?_); rintro e w' ⟨rfl, ⟨nd, rfl⟩⟩; (try first | exact ⟨rfl, _, World.drewN_drewN _ _ _⟩ | exact ⟨rfl, _, Eq.trans (World.drewN_drewN _ _ _) (congrArg (World.drewN _) (Nat.add_assoc _ _ _))⟩))); try go_wp2_with (first | (go_at_call 91; (with_reducible refine (impl_isPrime.calls a0 true _ A5.out).mono ?_); rintro e w' ⟨rfl, ⟨nd, rfl⟩⟩; (try first | exact ⟨rfl, _, World.drewN_drewN _ _ _⟩ | exact ⟨rfl, _, Eq.trans (World.drewN_drewN _ _ _) (congrArg (World.drewN _) (Nat.add_assoc _ _ _))⟩); have hcz12_0 : w4.cell? ⟨gb535, 0, none⟩ = some (.int .i64 a1_0) := cA BK535 0; have hcz12_1 : w4.cell? ⟨gb535, 1, none⟩ = some (.int .i64 a1_1) := cA BK535 1; have hcz12_2 : w4.cell? ⟨gb535, 2, none⟩ = some (.int .i64 a1_2) := cA BK535 2; have hfz12_0 := blk_frozen BK535.out 0; have hfz12_1 := blk_frozen BK535.out 1; have hfz12_2 := blk_frozen BK535.out 2) | (go_at_call 92; (with_reducible refine (impl_isLevel.calls a1_0 false _ A7.out).mono ?_); rintro e w' ⟨rfl, ⟨nd, rfl⟩⟩; (try first | exact ⟨rfl, _, World.drewN_drewN _ _ _⟩ | exact ⟨rfl, _, Eq.trans (World.drewN_drewN _ _ _) (congrArg (World.drewN _) (Nat.add_assoc _ _ _))⟩))))
    go_meet
    case rel => exact ⟨_, (true), hB, H', ⟨by first | omega | exact Nat.le_refl _⟩, ⟨bkA BK535⟩, ⟨blA⟩⟩
  ·
   replace c6 := Bool.eq_false_iff.mpr c6
   subst c6
   rw [if_neg (show ¬ (false = true) by decide)] at H
   try dsimp only at H
   have H' := Aside0.mk H
   clear H
   go_wp2_with (first | (go_at_call 91; (with_reducible refine (impl_isPrime.calls a0 false _ A5.out).mono ?_); rintro e w' ⟨rfl, ⟨nd, rfl⟩⟩; (try first | exact ⟨rfl, _, World.drewN_drewN _ _ _⟩ | exact ⟨rfl, _, Eq.trans (World.drewN_drewN _ _ _) (congrArg (World.drewN _) (Nat.add_assoc _ _ _))⟩)))
   repeat (go_quiet (first | (go_at_call 91; (with_reducible refine (impl_isPrime.calls a0 false _ A5.out).mono ?_); rintro e w' ⟨rfl, ⟨nd, rfl⟩⟩; (try first | exact ⟨rfl, _, World.drewN_drewN _ _ _⟩ | exact ⟨rfl, _, Eq.trans (World.drewN_drewN _ _ _) (congrArg (World.drewN _) (Nat.add_assoc _ _ _))⟩))); try go_wp2_with (first | (go_at_call 91; (with_reducible refine (impl_isPrime.calls a0 false _ A5.out).mono ?_); rintro e w' ⟨rfl, ⟨nd, rfl⟩⟩; (try first | exact ⟨rfl, _, World.drewN_drewN _ _ _⟩ | exact ⟨rfl, _, Eq.trans (World.drewN_drewN _ _ _) (congrArg (World.drewN _) (Nat.add_assoc _ _ _))⟩))))
   go_meet
   case rel => exact ⟨_, (true), hB, H', ⟨by first | omega | exact Nat.le_refl _⟩, ⟨bkA BK535⟩, ⟨blA⟩⟩
 case rest =>
  clear HC3
  try clear c6
  try clear c8
  try clear c9
  try clear c9b0
  try clear hcz10_0
  try clear hcz10_1
  try clear hcz10_2
  try clear hcz11_0
  try clear hcz11_1
  try clear hcz11_2
  try clear hcz12_0
  try clear hcz12_1
  try clear hcz12_2
  try clear hfz10_0
  try clear hfz10_1
  try clear hfz10_2
  try clear hfz11_0
  try clear hfz11_1
  try clear hfz11_2
  try clear hfz12_0
  try clear hfz12_1
  try clear hfz12_2
  obtain ⟨kq, x24_2, rfl, HA, HJ2, BK535, HB⟩ := hcut
  cases kq with
  | zero => exact absurd HA.out (by simp [impl_IsBall.j0])
  | succ kj2 =>
   have H := HA.out
   clear HA
   simp only [impl_IsBall.j0] at H
   by_cases c13 : x24_2 = true
   ·
    subst c13
    rw [if_pos rfl] at H
    try dsimp only at H
    obtain rfl := Option.some.inj H
    go_wp2
    repeat (go_quiet (fail); try go_wp2)
    go_ret
    exact finA blA
   ·
    replace c13 := Bool.eq_false_iff.mpr c13
    subst c13
    rw [if_neg (show ¬ (false = true) by decide)] at H
    try dsimp only at H
    by_cases c14 : (wrap64 (a1_0 + a1_2)) ≤ 0
    ·
     rw [if_pos c14] at H
     have c14b0 := decide_eq_true c14
     clear c14
     by_cases c15 : a1_1 = 0
     ·
      rw [if_pos c15] at H
      have c15b0 : (a1_1 == 0) = true := beq_iff_eq.mpr c15
      have c15b1 : (a1_1 != 0) = false := bne_eq_false_iff_eq.mpr c15
      clear c15
      obtain rfl := Option.some.inj H
      have hcz16_0 : wc.cell? ⟨gb535, 0, none⟩ = some (.int .i64 a1_0) := cA BK535 0
      have hcz16_1 : wc.cell? ⟨gb535, 1, none⟩ = some (.int .i64 a1_1) := cA BK535 1
      have hcz16_2 : wc.cell? ⟨gb535, 2, none⟩ = some (.int .i64 a1_2) := cA BK535 2
      have hfz16_0 := blk_frozen BK535.out 0
      have hfz16_1 := blk_frozen BK535.out 1
      have hfz16_2 := blk_frozen BK535.out 2
      go_wp2
      repeat (go_quiet (fail); try go_wp2)
      go_ret
      exact finA blA
     ·
      rw [if_neg c15] at H
      have c15b0 : (a1_1 == 0) = false := beq_eq_false_iff_ne.mpr c15
      have c15b1 : (a1_1 != 0) = true := bne_iff_ne.mpr c15
      obtain rfl := Option.some.inj H
      have hcz17_0 : wc.cell? ⟨gb535, 0, none⟩ = some (.int .i64 a1_0) := cA BK535 0
      have hcz17_1 : wc.cell? ⟨gb535, 1, none⟩ = some (.int .i64 a1_1) := cA BK535 1
      have hcz17_2 : wc.cell? ⟨gb535, 2, none⟩ = some (.int .i64 a1_2) := cA BK535 2
      have hfz17_0 := blk_frozen BK535.out 0
      have hfz17_1 := blk_frozen BK535.out 1
      have hfz17_2 := blk_frozen BK535.out 2
      go_wp2
      repeat (go_quiet (fail); try go_wp2)
      go_ret
      exact finA blA
    ·
     rw [if_neg c14] at H
     have c14b0 := decide_eq_false c14
     clear c14
     by_cases c18 : a1_1 ≥ 0
     ·
      rw [if_pos c18] at H
      have c18b0 : decide (0 ≤ a1_1) = true := decide_eq_true c18
      clear c18
      replace H := bS H
      obtain ⟨t538, A19, H⟩ := H
      try dsimp only at H
      by_cases c20 : a1_1 < t538
      ·
       rw [if_pos c20] at H
       have c20b0 := decide_eq_true c20
       clear c20
       by_cases c21 : a1_2 = 0
       ·
        rw [if_pos c21] at H
        have c21b0 : (a1_2 == 0) = true := beq_iff_eq.mpr c21
        have c21b1 : (a1_2 != 0) = false := bne_eq_false_iff_eq.mpr c21
        clear c21
        obtain rfl := Option.some.inj H
        have hcz22_0 : wc.cell? ⟨gb535, 0, none⟩ = some (.int .i64 a1_0) := cA BK535 0
        have hcz22_1 : wc.cell? ⟨gb535, 1, none⟩ = some (.int .i64 a1_1) := cA BK535 1
        have hcz22_2 : wc.cell? ⟨gb535, 2, none⟩ = some (.int .i64 a1_2) := cA BK535 2
        have hfz22_0 := blk_frozen BK535.out 0
        have hfz22_1 := blk_frozen BK535.out 1
        have hfz22_2 := blk_frozen BK535.out 2
        go_wp2_with (first | (go_at_call 93; (with_reducible refine (impl_power.calls kj2 a0 (wrap64 (a1_0 + a1_2)) t538 _ A19.out).mono ?_); rintro e w' ⟨rfl, ⟨nd, rfl⟩⟩; (try first | exact ⟨rfl, _, World.drewN_drewN _ _ _⟩ | exact ⟨rfl, _, Eq.trans (World.drewN_drewN _ _ _) (congrArg (World.drewN _) (Nat.add_assoc _ _ _))⟩)))
        repeat (go_quiet (first | (go_at_call 93; (with_reducible refine (impl_power.calls kj2 a0 (wrap64 (a1_0 + a1_2)) t538 _ A19.out).mono ?_); rintro e w' ⟨rfl, ⟨nd, rfl⟩⟩; (try first | exact ⟨rfl, _, World.drewN_drewN _ _ _⟩ | exact ⟨rfl, _, Eq.trans (World.drewN_drewN _ _ _) (congrArg (World.drewN _) (Nat.add_assoc _ _ _))⟩))); try go_wp2_with (first | (go_at_call 93; (with_reducible refine (impl_power.calls kj2 a0 (wrap64 (a1_0 + a1_2)) t538 _ A19.out).mono ?_); rintro e w' ⟨rfl, ⟨nd, rfl⟩⟩; (try first | exact ⟨rfl, _, World.drewN_drewN _ _ _⟩ | exact ⟨rfl, _, Eq.trans (World.drewN_drewN _ _ _) (congrArg (World.drewN _) (Nat.add_assoc _ _ _))⟩))))
        go_ret
        exact finA blA
       ·
        rw [if_neg c21] at H
        have c21b0 : (a1_2 == 0) = false := beq_eq_false_iff_ne.mpr c21
        have c21b1 : (a1_2 != 0) = true := bne_iff_ne.mpr c21
        by_cases c23 : a0 = 0
        ·
         rw [if_pos c23] at H
         exact absurd H (by simp)
        ·
         rw [if_neg c23] at H
         have c23b0 : (a0 == 0) = false := beq_eq_false_iff_ne.mpr c23
         have c23b1 : (a0 != 0) = true := bne_iff_ne.mpr c23
         obtain rfl := Option.some.inj H
         have hcz24_0 : wc.cell? ⟨gb535, 0, none⟩ = some (.int .i64 a1_0) := cA BK535 0
         have hcz24_1 : wc.cell? ⟨gb535, 1, none⟩ = some (.int .i64 a1_1) := cA BK535 1
         have hcz24_2 : wc.cell? ⟨gb535, 2, none⟩ = some (.int .i64 a1_2) := cA BK535 2
         have hfz24_0 := blk_frozen BK535.out 0
         have hfz24_1 := blk_frozen BK535.out 1
         have hfz24_2 := blk_frozen BK535.out 2
         go_wp2_with (first | (go_at_call 93; (with_reducible refine (impl_power.calls kj2 a0 (wrap64 (a1_0 + a1_2)) t538 _ A19.out).mono ?_); rintro e w' ⟨rfl, ⟨nd, rfl⟩⟩; (try first | exact ⟨rfl, _, World.drewN_drewN _ _ _⟩ | exact ⟨rfl, _, Eq.trans (World.drewN_drewN _ _ _) (congrArg (World.drewN _) (Nat.add_assoc _ _ _))⟩)))
         repeat (go_quiet (first | (go_at_call 93; (with_reducible refine (impl_power.calls kj2 a0 (wrap64 (a1_0 + a1_2)) t538 _ A19.out).mono ?_); rintro e w' ⟨rfl, ⟨nd, rfl⟩⟩; (try first | exact ⟨rfl, _, World.drewN_drewN _ _ _⟩ | exact ⟨rfl, _, Eq.trans (World.drewN_drewN _ _ _) (congrArg (World.drewN _) (Nat.add_assoc _ _ _))⟩))); try go_wp2_with (first | (go_at_call 93; (with_reducible refine (impl_power.calls kj2 a0 (wrap64 (a1_0 + a1_2)) t538 _ A19.out).mono ?_); rintro e w' ⟨rfl, ⟨nd, rfl⟩⟩; (try first | exact ⟨rfl, _, World.drewN_drewN _ _ _⟩ | exact ⟨rfl, _, Eq.trans (World.drewN_drewN _ _ _) (congrArg (World.drewN _) (Nat.add_assoc _ _ _))⟩))))
         go_ret
         exact finA blA
      ·
       rw [if_neg c20] at H
       have c20b0 := decide_eq_false c20
       clear c20
       obtain rfl := Option.some.inj H
       have hcz25_0 : wc.cell? ⟨gb535, 0, none⟩ = some (.int .i64 a1_0) := cA BK535 0
       have hcz25_1 : wc.cell? ⟨gb535, 1, none⟩ = some (.int .i64 a1_1) := cA BK535 1
       have hcz25_2 : wc.cell? ⟨gb535, 2, none⟩ = some (.int .i64 a1_2) := cA BK535 2
       have hfz25_0 := blk_frozen BK535.out 0
       have hfz25_1 := blk_frozen BK535.out 1
       have hfz25_2 := blk_frozen BK535.out 2
       go_wp2_with (first | (go_at_call 93; (with_reducible refine (impl_power.calls kj2 a0 (wrap64 (a1_0 + a1_2)) t538 _ A19.out).mono ?_); rintro e w' ⟨rfl, ⟨nd, rfl⟩⟩; (try first | exact ⟨rfl, _, World.drewN_drewN _ _ _⟩ | exact ⟨rfl, _, Eq.trans (World.drewN_drewN _ _ _) (congrArg (World.drewN _) (Nat.add_assoc _ _ _))⟩)))
       repeat (go_quiet (first | (go_at_call 93; (with_reducible refine (impl_power.calls kj2 a0 (wrap64 (a1_0 + a1_2)) t538 _ A19.out).mono ?_); rintro e w' ⟨rfl, ⟨nd, rfl⟩⟩; (try first | exact ⟨rfl, _, World.drewN_drewN _ _ _⟩ | exact ⟨rfl, _, Eq.trans (World.drewN_drewN _ _ _) (congrArg (World.drewN _) (Nat.add_assoc _ _ _))⟩))); try go_wp2_with (first | (go_at_call 93; (with_reducible refine (impl_power.calls kj2 a0 (wrap64 (a1_0 + a1_2)) t538 _ A19.out).mono ?_); rintro e w' ⟨rfl, ⟨nd, rfl⟩⟩; (try first | exact ⟨rfl, _, World.drewN_drewN _ _ _⟩ | exact ⟨rfl, _, Eq.trans (World.drewN_drewN _ _ _) (congrArg (World.drewN _) (Nat.add_assoc _ _ _))⟩))))
       go_ret
       exact finA blA
     ·
      rw [if_neg c18] at H
      have c18b0 : decide (0 ≤ a1_1) = false := decide_eq_false c18
      clear c18
      obtain rfl := Option.some.inj H
      have hcz26_0 : wc.cell? ⟨gb535, 0, none⟩ = some (.int .i64 a1_0) := cA BK535 0
      have hcz26_1 : wc.cell? ⟨gb535, 1, none⟩ = some (.int .i64 a1_1) := cA BK535 1
      have hcz26_2 : wc.cell? ⟨gb535, 2, none⟩ = some (.int .i64 a1_2) := cA BK535 2
      have hfz26_0 := blk_frozen BK535.out 0
      have hfz26_1 := blk_frozen BK535.out 1
      have hfz26_2 := blk_frozen BK535.out 2
      go_wp2
      repeat (go_quiet (fail); try go_wp2)
      go_ret
      exact finA blA
end Go.Proofs.Ytccpccnnbacgjaa.PAll
