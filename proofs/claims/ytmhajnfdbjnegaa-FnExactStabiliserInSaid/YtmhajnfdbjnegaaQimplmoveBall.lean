-- turned for this claim out of the kit's print: the same functions, packed anew
import Derived.Test.YtmhajnfdbjnegaaQx
import Derived.Test.YtmhajnfdbjnegaaQimplIsMatrix
import Derived.Test.YtmhajnfdbjnegaaQimplmark
import Derived.Test.YtmhajnfdbjnegaaQimplofMark
import Derived.Test.YtmhajnfdbjnegaaQimpltimes
import Derived.Test.YtmhajnfdbjnegaaQspecl01Code
namespace Go.Proofs.Ytmhajnfdbjnegaa.PAll
open Go.RowKit Go.Proofs.YtmhajnfdbjnegaaW.PrintWords Go.Proofs.YtmhajnfdbjnegaaW.PrintLast Go.Proofs.YtmhajnfdbjnegaaW.PrintMore
attribute [local go_sem] Go.Proofs.Ytmhajnfdbjnegaa.Aux.setCell_drewN Go.Proofs.Ytmhajnfdbjnegaa.Aux.isSome_setCell max2_int min2_int max_two min_two max_three min_three max_four min_four   -- for this text's walks alone
set_option linter.unusedVariables false
set_option linter.unusedSimpArgs false
/-! ### impl_ballAt: function 100 -/
def impl_ballAt.j0 : Nat → Int → Int → Int → Int → Int → Bool → Option (Int × Int × Int × Bool)
  | 0, _, _, _, _, _, _ => none
  | k + 1, x0, x1, x2, x3, x10, x24 => if x24 = true then (some (x3, 0, 0, true)) else (if x10 < (-6) then (some (0, 0, 0, false)) else ((impl_power.f k x0 (wrap64 (x3 + 6))).bind fun t657 => ((impl_unit.f k x0 x1).bind fun t658 => ((impl_unit.f k x0 x2).bind fun t659 => ((impl_inverse.f k t659 t657).bind fun t660 => ((impl_times.f k t658 t660 t657).bind fun t661 => ((impl_power.f k x0 (wrap64 (x10 + 6))).bind fun t662 => ((impl_times.f k t661 t662 t657).bind fun t663 => ((impl_ofMark.f k x0 x3 t663).bind fun bt664 => (some (bt664.1, bt664.2.1, bt664.2.2.1, bt664.2.2.2)))))))))))
def impl_ballAt.f (k : Nat) (a0 : Int) (a1 : Int) (a2 : Int) (a3 : Int) : Option (Int × Int × Int × Bool) := (impl_isLevel.f a3).bind fun t654 => (if t654 = true then ((impl_valuation.f k a0 a1).bind fun t655 => ((impl_valuation.f k a0 a2).bind fun t656 => (if a1 = 0 then (impl_ballAt.j0 k a0 a1 a2 a3 (wrap64 (t655 - t656)) true) else (impl_ballAt.j0 k a0 a1 a2 a3 (wrap64 (t655 - t656)) (decide ((wrap64 (t655 - t656)) ≥ a3)))))) else (some (0, 0, 0, false)))
theorem impl_ballAt.mono_l : ∀ k, (∀ y0 y1 y2 y3 y4 y5, LeO (impl_ballAt.j0 k y0 y1 y2 y3 y4 y5) (impl_ballAt.j0 (k + 1) y0 y1 y2 y3 y4 y5))
  | 0 => fun _ _ _ _ _ _ r h => by simp [impl_ballAt.j0] at h
  | k + 1 => by
    have ih0 := impl_ballAt.mono_l k
    · intro y0 y1 y2 y3 y4 y5
      unfold impl_ballAt.j0
      repeat' first
      | (with_reducible exact ih0 _ _ _ _ _ _)
      | (with_reducible exact impl_inverse.mono _ _ _)
      | (with_reducible exact impl_ofMark.mono _ _ _ _)
      | (with_reducible exact impl_power.mono _ _ _)
      | (with_reducible exact impl_times.mono _ _ _ _)
      | (with_reducible exact impl_unit.mono _ _ _)
      | (with_reducible exact impl_valuation.mono _ _ _)
      | (with_reducible exact LeO.refl _)
      | (with_reducible exact LeO.none _)
      | (with_reducible refine LeO.ite ?_ ?_)
      | (with_reducible refine LeO.bind ?_ (fun _ => ?_))
      | exact ih0 _ _ _ _ _ _
      | exact impl_inverse.mono _ _ _
      | exact impl_ofMark.mono _ _ _ _
      | exact impl_power.mono _ _ _
      | exact impl_times.mono _ _ _ _
      | exact impl_unit.mono _ _ _
      | exact impl_valuation.mono _ _ _
      | exact LeO.none _
      | refine LeO.ite ?_ ?_
      | refine LeO.bind ?_ (fun _ => ?_)
theorem impl_ballAt.mono : ∀ a0 a1 a2 a3 k, LeO (impl_ballAt.f k a0 a1 a2 a3) (impl_ballAt.f (k + 1) a0 a1 a2 a3) := by
  intro a0 a1 a2 a3 k
  have ih0 := impl_ballAt.mono_l k
  unfold impl_ballAt.f
  repeat' first
      | (with_reducible exact ih0 _ _ _ _ _ _)
      | (with_reducible exact impl_inverse.mono _ _ _)
      | (with_reducible exact impl_ofMark.mono _ _ _ _)
      | (with_reducible exact impl_power.mono _ _ _)
      | (with_reducible exact impl_times.mono _ _ _ _)
      | (with_reducible exact impl_unit.mono _ _ _)
      | (with_reducible exact impl_valuation.mono _ _ _)
      | (with_reducible exact LeO.refl _)
      | (with_reducible exact LeO.none _)
      | (with_reducible refine LeO.ite ?_ ?_)
      | (with_reducible refine LeO.bind ?_ (fun _ => ?_))
      | exact ih0 _ _ _ _ _ _
      | exact impl_inverse.mono _ _ _
      | exact impl_ofMark.mono _ _ _ _
      | exact impl_power.mono _ _ _
      | exact impl_times.mono _ _ _ _
      | exact impl_unit.mono _ _ _
      | exact impl_valuation.mono _ _ _
      | exact LeO.none _
      | refine LeO.ite ?_ ?_
      | refine LeO.bind ?_ (fun _ => ?_)
set_option maxHeartbeats 8000000 in
set_option maxRecDepth 100000 in
theorem impl_ballAt.calls (k : Nat) (a0 : Int) (a1 : Int) (a2 : Int) (a3 : Int) (r1 : Int) (r2 : Int) (r3 : Int) (r4 : Bool) (w : World) (h : impl_ballAt.f k a0 a1 a2 a3 = some (r1, r2, r3, r4)) :
    Calls Try.prog 100 #[.int .i64 a0, .int .i64 a1, .int .i64 a2, .int .i64 a3] w fun e w' => e = .returned (.tuple #[.agg #[.int .i64 r1, .int .i64 r2, .int .i64 r3], .bool r4]) ∧ Below w.heap.size w w' := by
  have hu55 := Try.underlying55
  have HB := Aside0.mk (Below.refl w.heap.size w)
  have H : ((impl_isLevel.f a3).bind fun t654 => (if t654 = true then ((impl_valuation.f k a0 a1).bind fun t655 => ((impl_valuation.f k a0 a2).bind fun t656 => (if a1 = 0 then (impl_ballAt.j0 k a0 a1 a2 a3 (wrap64 (t655 - t656)) true) else (impl_ballAt.j0 k a0 a1 a2 a3 (wrap64 (t655 - t656)) (decide ((wrap64 (t655 - t656)) ≥ a3)))))) else (some (0, 0, 0, false)))) = some (r1, r2, r3, r4) := h
  clear h
  replace H := Option.bind_eq_some_iff.mp H
  obtain ⟨t654, A50, H⟩ := H
  replace H : (if t654 = true then ((impl_valuation.f k a0 a1).bind fun t655 => ((impl_valuation.f k a0 a2).bind fun t656 => (if a1 = 0 then (impl_ballAt.j0 k a0 a1 a2 a3 (wrap64 (t655 - t656)) true) else (impl_ballAt.j0 k a0 a1 a2 a3 (wrap64 (t655 - t656)) (decide ((wrap64 (t655 - t656)) ≥ a3)))))) else (some (0, 0, 0, false))) = some (r1, r2, r3, r4) := H
  have A5 := Aside0.mk A50
  clear A50
  by_cases c6 : t654 = true
  · subst c6
    have H1 : ((impl_valuation.f k a0 a1).bind fun t655 => ((impl_valuation.f k a0 a2).bind fun t656 => (if a1 = 0 then (impl_ballAt.j0 k a0 a1 a2 a3 (wrap64 (t655 - t656)) true) else (impl_ballAt.j0 k a0 a1 a2 a3 (wrap64 (t655 - t656)) (decide ((wrap64 (t655 - t656)) ≥ a3)))))) = some (r1, r2, r3, r4) := by rw [if_pos rfl] at H; exact H
    clear H
    have H := H1
    clear H1
    replace H := Option.bind_eq_some_iff.mp H
    obtain ⟨t655, A70, H⟩ := H
    replace H : ((impl_valuation.f k a0 a2).bind fun t656 => (if a1 = 0 then (impl_ballAt.j0 k a0 a1 a2 a3 (wrap64 (t655 - t656)) true) else (impl_ballAt.j0 k a0 a1 a2 a3 (wrap64 (t655 - t656)) (decide ((wrap64 (t655 - t656)) ≥ a3))))) = some (r1, r2, r3, r4) := H
    have A7 := Aside0.mk A70
    clear A70
    replace H := Option.bind_eq_some_iff.mp H
    obtain ⟨t656, A80, H⟩ := H
    replace H : (if a1 = 0 then (impl_ballAt.j0 k a0 a1 a2 a3 (wrap64 (t655 - t656)) true) else (impl_ballAt.j0 k a0 a1 a2 a3 (wrap64 (t655 - t656)) (decide ((wrap64 (t655 - t656)) ≥ a3)))) = some (r1, r2, r3, r4) := H
    have A8 := Aside0.mk A80
    clear A80
    have HC9 := Aside0.mk H
    clear H
    go_enter Try.func100, Try.ntmps100
    go_upto_region 4 with (first | ((with_reducible refine gate_dst (N := 8) rfl ?_); refine box_event ?hg (N := 8) ?hd (cs := #[.int .i64 0, .int .i64 0, .int .i64 0]) (t := 55) ?hr ?_; (case hd => rfl); (case hg => rfl); (case hr => first | (go_simp; done) | (go_simp; rfl)); intro gb653 hg w10 hbox hb; have n0_ := Aside0.mk (below_step blA hb); have n1_ := Aside0.mk (hbox); have n2_ := Aside0.mk (szA hg blA); have n3_ := Aside0.mk (szA hg blA); clear HB; have HB := n0_; have BK653 := n1_; have GW653 := n2_; have GE653 := n3_; clear n0_ n1_ n2_ n3_; clear hb hbox hg) | ((with_reducible refine gate_callee (f := 97) rfl ?_); refine goesL_ (some 14) rfl rfl Try.func97 (by kernel_rfl) rfl #[.int .i64 a3] rfl (by (try simp only [List.map_toArray, List.map_cons, List.map_nil]); first | done | rfl | (simp only [List.length_drop, List.length_take]; rfl)) ?_; (with_reducible refine (impl_isLevel.calls a3 true _ A5.out).mono ?_); rintro e w' ⟨rfl, ⟨nd, rfl⟩⟩; refine ⟨_, rfl, ?_⟩) | ((with_reducible refine gate_callee (f := 90) rfl ?_); refine goesL_ (some 19) rfl rfl Try.func90 (by kernel_rfl) rfl #[.int .i64 a0, .int .i64 a1] rfl (by (try simp only [List.map_toArray, List.map_cons, List.map_nil]); first | done | rfl | (simp only [List.length_drop, List.length_take]; rfl)) ?_; (with_reducible refine (impl_valuation.calls k a0 a1 t655 _ A7.out).mono ?_); rintro e w' ⟨rfl, ⟨nd, rfl⟩⟩; refine ⟨_, rfl, ?_⟩) | ((with_reducible refine gate_callee (f := 90) rfl ?_); refine goesL_ (some 22) rfl rfl Try.func90 (by kernel_rfl) rfl #[.int .i64 a0, .int .i64 a2] rfl (by (try simp only [List.map_toArray, List.map_cons, List.map_nil]); first | done | rfl | (simp only [List.length_drop, List.length_take]; rfl)) ?_; (with_reducible refine (impl_valuation.calls k a0 a2 t656 _ A8.out).mono ?_); rintro e w' ⟨rfl, ⟨nd, rfl⟩⟩; refine ⟨_, rfl, ?_⟩))
    (try simp only [Act.put, List.setIfInBounds_toArray, List.set_cons_zero, List.set_cons_succ])
    go_cut [24] (fun v24 wc => ∃ (kq : Nat) (x24_8 : Bool), v24 = .bool x24_8 ∧ Aside0 (impl_ballAt.j0 kq a0 a1 a2 a3 (wrap64 (t655 - t656)) x24_8 = some (r1, r2, r3, r4)) ∧ Aside0 (kq ≤ k) ∧ Aside0 (wc.heap[gb653]? = some (.cells #[.int .i64 0, .int .i64 0, .int .i64 0] 55 (0, 0))) ∧ Aside0 (Below w.heap.size w wc))
    case first =>
      have H := HC9.out
      clear HC9
      by_cases c11 : a1 = 0
      · rw [if_pos c11] at H
        have c11b0 : (a1 == 0) = true := beq_iff_eq.mpr c11
        have c11b1 : (a1 != 0) = false := bne_eq_false_iff_eq.mpr c11
        clear c11
        (first | rw [c11b0] | (simp only [i64_w, i32_w]; rw [c11b0]) | skip)
        have H' := Aside0.mk H
        clear H
        go_wp2
        go_meet
        case rel => exact ⟨_, (true), (by first | rfl | (simp; done) | (simp [*]; done)), H', ⟨by first | omega | exact Nat.le_refl _⟩, ⟨bkA BK653⟩, ⟨blA⟩⟩
      · rw [if_neg c11] at H
        have c11b0 : (a1 == 0) = false := beq_eq_false_iff_ne.mpr c11
        have c11b1 : (a1 != 0) = true := bne_iff_ne.mpr c11
        (first | rw [c11b0] | (simp only [i64_w, i32_w]; rw [c11b0]) | skip)
        have H' := Aside0.mk H
        clear H
        go_wp2
        go_meet
        case rel => exact ⟨_, (decide ((wrap64 (t655 - t656)) ≥ a3)), (by first | rfl | (simp; done) | (simp [*]; done)), H', ⟨by first | omega | exact Nat.le_refl _⟩, ⟨bkA BK653⟩, ⟨blA⟩⟩
    case rest =>
      clear HC9
      try clear c1
      try clear p2
      try clear c6
      try clear p6
      try clear c9
      try clear c10
      try clear c11
      try clear c11b0
      try clear c11b1
      obtain ⟨kq, x24_8, rfl, HA, HJ8, BK653, HB⟩ := hcut
      cases kq with
      | zero => exact absurd HA.out (by simp [impl_ballAt.j0])
      | succ kj8 =>
        have H := HA.out
        clear HA
        simp only [impl_ballAt.j0] at H
        by_cases c12 : x24_8 = true
        · subst c12
          have H1 : (some (a3, 0, 0, true)) = some (r1, r2, r3, r4) := by rw [if_pos rfl] at H; exact H
          clear H
          have H := H1
          clear H1
          simp only [Option.some.injEq, Prod.mk.injEq] at H
          obtain ⟨rfl, rfl, rfl, rfl⟩ := H
          have hcz13_0 : wc.cell? ⟨gb653, 0, none⟩ = some (.int .i64 0) := (blk_cell BK653.out 0).trans rfl
          have hcz13_1 : wc.cell? ⟨gb653, 1, none⟩ = some (.int .i64 0) := (blk_cell BK653.out 1).trans rfl
          have hcz13_2 : wc.cell? ⟨gb653, 2, none⟩ = some (.int .i64 0) := (blk_cell BK653.out 2).trans rfl
          have hfz13_0 := blk_frozen BK653.out 0
          have hfz13_1 := blk_frozen BK653.out 1
          have hfz13_2 := blk_frozen BK653.out 2
          go_wp2
          refine bodyPost_ret (results_ct rfl _ _ gb653 55 #[.int .i64 a3, .int .i64 0, .int .i64 0] (0, 0) _ rfl (by (with_reducible repeat (first | refine blk_drewN ?_ _ | refine blk_drew ?_ | refine blk_alloc ?_ _)); refine blk_put (cs := #[.int .i64 a3, .int .i64 0, .int .i64 0]) ?_ 2 _ rfl; (with_reducible repeat (first | refine blk_drewN ?_ _ | refine blk_drew ?_ | refine blk_alloc ?_ _)); refine blk_put (cs := #[.int .i64 a3, .int .i64 0, .int .i64 0]) ?_ 1 _ rfl; (with_reducible repeat (first | refine blk_drewN ?_ _ | refine blk_drew ?_ | refine blk_alloc ?_ _)); refine blk_put (cs := #[.int .i64 0, .int .i64 0, .int .i64 0]) ?_ 0 _ rfl; (with_reducible repeat (first | refine blk_drewN ?_ _ | refine blk_drew ?_ | refine blk_alloc ?_ _)); exact BK653.out) Try.underlying55 rfl (by kernel_rfl)) rfl ?_
          exact ⟨by first | rfl | (simp [errW_none, errW_some] <;> rfl) | (simp [*, errW_none, errW_some] <;> rfl), blA⟩
        · replace c12 := Bool.eq_false_iff.mpr c12
          subst c12
          have H1 : (if (wrap64 (t655 - t656)) < (-6) then (some (0, 0, 0, false)) else ((impl_power.f kj8 a0 (wrap64 (a3 + 6))).bind fun t657 => ((impl_unit.f kj8 a0 a1).bind fun t658 => ((impl_unit.f kj8 a0 a2).bind fun t659 => ((impl_inverse.f kj8 t659 t657).bind fun t660 => ((impl_times.f kj8 t658 t660 t657).bind fun t661 => ((impl_power.f kj8 a0 (wrap64 ((wrap64 (t655 - t656)) + 6))).bind fun t662 => ((impl_times.f kj8 t661 t662 t657).bind fun t663 => ((impl_ofMark.f kj8 a0 a3 t663).bind fun bt664 => (some (bt664.1, bt664.2.1, bt664.2.2.1, bt664.2.2.2))))))))))) = some (r1, r2, r3, r4) := by rw [if_neg (show ¬ (false = true) by decide)] at H; exact H
          clear H
          have H := H1
          clear H1
          by_cases c14 : (wrap64 (t655 - t656)) < (-6)
          · rw [if_pos c14] at H
            have c14b0 : decide ((wrap64 (t655 - t656)) < (-6)) = true := decide_eq_true c14
            clear c14
            simp only [Option.some.injEq, Prod.mk.injEq] at H
            obtain ⟨rfl, rfl, rfl, rfl⟩ := H
            have hcz15_0 : wc.cell? ⟨gb653, 0, none⟩ = some (.int .i64 0) := (blk_cell BK653.out 0).trans rfl
            have hcz15_1 : wc.cell? ⟨gb653, 1, none⟩ = some (.int .i64 0) := (blk_cell BK653.out 1).trans rfl
            have hcz15_2 : wc.cell? ⟨gb653, 2, none⟩ = some (.int .i64 0) := (blk_cell BK653.out 2).trans rfl
            have hfz15_0 := blk_frozen BK653.out 0
            have hfz15_1 := blk_frozen BK653.out 1
            have hfz15_2 := blk_frozen BK653.out 2
            go_wp2
            refine bodyPost_ret (results_ct rfl _ _ gb653 55 #[.int .i64 0, .int .i64 0, .int .i64 0] (0, 0) _ rfl (by (with_reducible repeat (first | refine blk_drewN ?_ _ | refine blk_drew ?_ | refine blk_alloc ?_ _)); refine blk_put (cs := #[.int .i64 0, .int .i64 0, .int .i64 0]) ?_ 2 _ rfl; (with_reducible repeat (first | refine blk_drewN ?_ _ | refine blk_drew ?_ | refine blk_alloc ?_ _)); refine blk_put (cs := #[.int .i64 0, .int .i64 0, .int .i64 0]) ?_ 1 _ rfl; (with_reducible repeat (first | refine blk_drewN ?_ _ | refine blk_drew ?_ | refine blk_alloc ?_ _)); refine blk_put (cs := #[.int .i64 0, .int .i64 0, .int .i64 0]) ?_ 0 _ rfl; (with_reducible repeat (first | refine blk_drewN ?_ _ | refine blk_drew ?_ | refine blk_alloc ?_ _)); exact BK653.out) Try.underlying55 rfl (by kernel_rfl)) rfl ?_
            exact ⟨by first | rfl | (simp [errW_none, errW_some] <;> rfl) | (simp [*, errW_none, errW_some] <;> rfl), blA⟩
          · rw [if_neg c14] at H
            have c14b0 : decide ((wrap64 (t655 - t656)) < (-6)) = false := decide_eq_false c14
            clear c14
            replace H := Option.bind_eq_some_iff.mp H
            obtain ⟨t657, A160, H⟩ := H
            replace H : ((impl_unit.f kj8 a0 a1).bind fun t658 => ((impl_unit.f kj8 a0 a2).bind fun t659 => ((impl_inverse.f kj8 t659 t657).bind fun t660 => ((impl_times.f kj8 t658 t660 t657).bind fun t661 => ((impl_power.f kj8 a0 (wrap64 ((wrap64 (t655 - t656)) + 6))).bind fun t662 => ((impl_times.f kj8 t661 t662 t657).bind fun t663 => ((impl_ofMark.f kj8 a0 a3 t663).bind fun bt664 => (some (bt664.1, bt664.2.1, bt664.2.2.1, bt664.2.2.2))))))))) = some (r1, r2, r3, r4) := H
            have A16 := Aside0.mk A160
            clear A160
            replace H := Option.bind_eq_some_iff.mp H
            obtain ⟨t658, A170, H⟩ := H
            replace H : ((impl_unit.f kj8 a0 a2).bind fun t659 => ((impl_inverse.f kj8 t659 t657).bind fun t660 => ((impl_times.f kj8 t658 t660 t657).bind fun t661 => ((impl_power.f kj8 a0 (wrap64 ((wrap64 (t655 - t656)) + 6))).bind fun t662 => ((impl_times.f kj8 t661 t662 t657).bind fun t663 => ((impl_ofMark.f kj8 a0 a3 t663).bind fun bt664 => (some (bt664.1, bt664.2.1, bt664.2.2.1, bt664.2.2.2)))))))) = some (r1, r2, r3, r4) := H
            have A17 := Aside0.mk A170
            clear A170
            replace H := Option.bind_eq_some_iff.mp H
            obtain ⟨t659, A180, H⟩ := H
            replace H : ((impl_inverse.f kj8 t659 t657).bind fun t660 => ((impl_times.f kj8 t658 t660 t657).bind fun t661 => ((impl_power.f kj8 a0 (wrap64 ((wrap64 (t655 - t656)) + 6))).bind fun t662 => ((impl_times.f kj8 t661 t662 t657).bind fun t663 => ((impl_ofMark.f kj8 a0 a3 t663).bind fun bt664 => (some (bt664.1, bt664.2.1, bt664.2.2.1, bt664.2.2.2))))))) = some (r1, r2, r3, r4) := H
            have A18 := Aside0.mk A180
            clear A180
            replace H := Option.bind_eq_some_iff.mp H
            obtain ⟨t660, A190, H⟩ := H
            replace H : ((impl_times.f kj8 t658 t660 t657).bind fun t661 => ((impl_power.f kj8 a0 (wrap64 ((wrap64 (t655 - t656)) + 6))).bind fun t662 => ((impl_times.f kj8 t661 t662 t657).bind fun t663 => ((impl_ofMark.f kj8 a0 a3 t663).bind fun bt664 => (some (bt664.1, bt664.2.1, bt664.2.2.1, bt664.2.2.2)))))) = some (r1, r2, r3, r4) := H
            have A19 := Aside0.mk A190
            clear A190
            replace H := Option.bind_eq_some_iff.mp H
            obtain ⟨t661, A200, H⟩ := H
            replace H : ((impl_power.f kj8 a0 (wrap64 ((wrap64 (t655 - t656)) + 6))).bind fun t662 => ((impl_times.f kj8 t661 t662 t657).bind fun t663 => ((impl_ofMark.f kj8 a0 a3 t663).bind fun bt664 => (some (bt664.1, bt664.2.1, bt664.2.2.1, bt664.2.2.2))))) = some (r1, r2, r3, r4) := H
            have A20 := Aside0.mk A200
            clear A200
            replace H := Option.bind_eq_some_iff.mp H
            obtain ⟨t662, A210, H⟩ := H
            replace H : ((impl_times.f kj8 t661 t662 t657).bind fun t663 => ((impl_ofMark.f kj8 a0 a3 t663).bind fun bt664 => (some (bt664.1, bt664.2.1, bt664.2.2.1, bt664.2.2.2)))) = some (r1, r2, r3, r4) := H
            have A21 := Aside0.mk A210
            clear A210
            replace H := Option.bind_eq_some_iff.mp H
            obtain ⟨t663, A220, H⟩ := H
            replace H : ((impl_ofMark.f kj8 a0 a3 t663).bind fun bt664 => (some (bt664.1, bt664.2.1, bt664.2.2.1, bt664.2.2.2))) = some (r1, r2, r3, r4) := H
            have A22 := Aside0.mk A220
            clear A220
            replace H := Option.bind_eq_some_iff.mp H
            obtain ⟨⟨t664, t665, t666, t667⟩, A230, H⟩ := H
            replace H : (some (t664, t665, t666, t667)) = some (r1, r2, r3, r4) := H
            have A23 := Aside0.mk A230
            clear A230
            simp only [Option.some.injEq, Prod.mk.injEq] at H
            obtain ⟨rfl, rfl, rfl, rfl⟩ := H
            go_wp2_with (first | ((with_reducible refine gate_callee (f := 98) rfl ?_); refine goesL_ (some 41) rfl rfl Try.func98 (by kernel_rfl) rfl #[.int .i64 a0, .int .i64 (wrap64 (a3 + 6))] rfl (by (try simp only [List.map_toArray, List.map_cons, List.map_nil]); first | done | rfl | (simp only [List.length_drop, List.length_take]; rfl)) ?_; (with_reducible refine (impl_power.calls kj8 a0 (wrap64 (a3 + 6)) t657 _ A16.out).mono ?_); rintro e w' ⟨rfl, ⟨nd, rfl⟩⟩; refine ⟨_, rfl, ?_⟩; (try (rw [drewN_self wc]; generalize hq_ : World.drewN wc _ = wc; have n0_ : Aside0 (wc.heap[gb653]? = some (.cells #[.int .i64 0, .int .i64 0, .int .i64 0] 55 (0, 0))) := ⟨by rw [← hq_]; exact (bkA BK653)⟩; have n1_ : Aside0 (Below w.heap.size w wc) := ⟨by rw [← hq_]; exact blA⟩; clear BK653 HB hq_; have BK653 := n0_; have HB := n1_; clear n0_ n1_))) | ((with_reducible refine gate_callee (f := 108) rfl ?_); refine goesL_ (some 44) rfl rfl Try.func108 (by kernel_rfl) rfl #[.int .i64 a0, .int .i64 a1] rfl (by (try simp only [List.map_toArray, List.map_cons, List.map_nil]); first | done | rfl | (simp only [List.length_drop, List.length_take]; rfl)) ?_; (with_reducible refine (impl_unit.calls kj8 a0 a1 t658 _ A17.out).mono ?_); rintro e w' ⟨rfl, ⟨nd, rfl⟩⟩; refine ⟨_, rfl, ?_⟩; (try (rw [drewN_self wc]; generalize hq_ : World.drewN wc _ = wc; have n0_ : Aside0 (wc.heap[gb653]? = some (.cells #[.int .i64 0, .int .i64 0, .int .i64 0] 55 (0, 0))) := ⟨by rw [← hq_]; exact (bkA BK653)⟩; have n1_ : Aside0 (Below w.heap.size w wc) := ⟨by rw [← hq_]; exact blA⟩; clear BK653 HB hq_; have BK653 := n0_; have HB := n1_; clear n0_ n1_))) | ((with_reducible refine gate_callee (f := 108) rfl ?_); refine goesL_ (some 47) rfl rfl Try.func108 (by kernel_rfl) rfl #[.int .i64 a0, .int .i64 a2] rfl (by (try simp only [List.map_toArray, List.map_cons, List.map_nil]); first | done | rfl | (simp only [List.length_drop, List.length_take]; rfl)) ?_; (with_reducible refine (impl_unit.calls kj8 a0 a2 t659 _ A18.out).mono ?_); rintro e w' ⟨rfl, ⟨nd, rfl⟩⟩; refine ⟨_, rfl, ?_⟩; (try (rw [drewN_self wc]; generalize hq_ : World.drewN wc _ = wc; have n0_ : Aside0 (wc.heap[gb653]? = some (.cells #[.int .i64 0, .int .i64 0, .int .i64 0] 55 (0, 0))) := ⟨by rw [← hq_]; exact (bkA BK653)⟩; have n1_ : Aside0 (Below w.heap.size w wc) := ⟨by rw [← hq_]; exact blA⟩; clear BK653 HB hq_; have BK653 := n0_; have HB := n1_; clear n0_ n1_))) | ((with_reducible refine gate_callee (f := 109) rfl ?_); refine goesL_ (some 49) rfl rfl Try.func109 (by kernel_rfl) rfl #[.int .i64 t659, .int .i64 t657] rfl (by (try simp only [List.map_toArray, List.map_cons, List.map_nil]); first | done | rfl | (simp only [List.length_drop, List.length_take]; rfl)) ?_; (with_reducible refine (impl_inverse.calls kj8 t659 t657 t660 _ A19.out).mono ?_); rintro e w' ⟨rfl, ⟨nd, rfl⟩⟩; refine ⟨_, rfl, ?_⟩; (try (rw [drewN_self wc]; generalize hq_ : World.drewN wc _ = wc; have n0_ : Aside0 (wc.heap[gb653]? = some (.cells #[.int .i64 0, .int .i64 0, .int .i64 0] 55 (0, 0))) := ⟨by rw [← hq_]; exact (bkA BK653)⟩; have n1_ : Aside0 (Below w.heap.size w wc) := ⟨by rw [← hq_]; exact blA⟩; clear BK653 HB hq_; have BK653 := n0_; have HB := n1_; clear n0_ n1_))) | ((with_reducible refine gate_callee (f := 107) rfl ?_); refine goesL_ (some 51) rfl rfl Try.func107 (by kernel_rfl) rfl #[.int .i64 t658, .int .i64 t660, .int .i64 t657] rfl (by (try simp only [List.map_toArray, List.map_cons, List.map_nil]); first | done | rfl | (simp only [List.length_drop, List.length_take]; rfl)) ?_; (with_reducible refine (impl_times.calls kj8 t658 t660 t657 t661 _ A20.out).mono ?_); rintro e w' ⟨rfl, ⟨nd, rfl⟩⟩; refine ⟨_, rfl, ?_⟩; (try (rw [drewN_self wc]; generalize hq_ : World.drewN wc _ = wc; have n0_ : Aside0 (wc.heap[gb653]? = some (.cells #[.int .i64 0, .int .i64 0, .int .i64 0] 55 (0, 0))) := ⟨by rw [← hq_]; exact (bkA BK653)⟩; have n1_ : Aside0 (Below w.heap.size w wc) := ⟨by rw [← hq_]; exact blA⟩; clear BK653 HB hq_; have BK653 := n0_; have HB := n1_; clear n0_ n1_))) | ((with_reducible refine gate_callee (f := 98) rfl ?_); refine goesL_ (some 58) rfl rfl Try.func98 (by kernel_rfl) rfl #[.int .i64 a0, .int .i64 (wrap64 ((wrap64 (t655 - t656)) + 6))] rfl (by (try simp only [List.map_toArray, List.map_cons, List.map_nil]); first | done | rfl | (simp only [List.length_drop, List.length_take]; rfl)) ?_; (with_reducible refine (impl_power.calls kj8 a0 (wrap64 ((wrap64 (t655 - t656)) + 6)) t662 _ A21.out).mono ?_); rintro e w' ⟨rfl, ⟨nd, rfl⟩⟩; refine ⟨_, rfl, ?_⟩; (try (rw [drewN_self wc]; generalize hq_ : World.drewN wc _ = wc; have n0_ : Aside0 (wc.heap[gb653]? = some (.cells #[.int .i64 0, .int .i64 0, .int .i64 0] 55 (0, 0))) := ⟨by rw [← hq_]; exact (bkA BK653)⟩; have n1_ : Aside0 (Below w.heap.size w wc) := ⟨by rw [← hq_]; exact blA⟩; clear BK653 HB hq_; have BK653 := n0_; have HB := n1_; clear n0_ n1_))) | ((with_reducible refine gate_callee (f := 107) rfl ?_); refine goesL_ (some 60) rfl rfl Try.func107 (by kernel_rfl) rfl #[.int .i64 t661, .int .i64 t662, .int .i64 t657] rfl (by (try simp only [List.map_toArray, List.map_cons, List.map_nil]); first | done | rfl | (simp only [List.length_drop, List.length_take]; rfl)) ?_; (with_reducible refine (impl_times.calls kj8 t661 t662 t657 t663 _ A22.out).mono ?_); rintro e w' ⟨rfl, ⟨nd, rfl⟩⟩; refine ⟨_, rfl, ?_⟩; (try (rw [drewN_self wc]; generalize hq_ : World.drewN wc _ = wc; have n0_ : Aside0 (wc.heap[gb653]? = some (.cells #[.int .i64 0, .int .i64 0, .int .i64 0] 55 (0, 0))) := ⟨by rw [← hq_]; exact (bkA BK653)⟩; have n1_ : Aside0 (Below w.heap.size w wc) := ⟨by rw [← hq_]; exact blA⟩; clear BK653 HB hq_; have BK653 := n0_; have HB := n1_; clear n0_ n1_))) | ((with_reducible refine gate_callee (f := 110) rfl ?_); refine goesL_ (some 61) rfl rfl Try.func110 (by kernel_rfl) rfl #[.int .i64 a0, .int .i64 a3, .int .i64 t663] rfl (by (try simp only [List.map_toArray, List.map_cons, List.map_nil]); first | done | rfl | (simp only [List.length_drop, List.length_take]; rfl)) ?_; (with_reducible refine (impl_ofMark.calls kj8 a0 a3 t663 t664 t665 t666 t667 _ A23.out).mono ?_); rintro e w24 ⟨rfl, hb⟩; refine ⟨_, rfl, ?_⟩; have n0_ := Aside0.mk (blk_below (bkA BK653) hb); have n1_ := Aside0.mk (below_step blA hb); clear BK653; clear HB; have BK653 := n0_; have HB := n1_; clear n0_ n1_; (try clear hb); (try clear hb2); (try clear hk); (try clear hi); have hcz25_0 : w24.cell? ⟨gb653, 0, none⟩ = some (.int .i64 0) := (blk_cell BK653.out 0).trans rfl; have hcz25_1 : w24.cell? ⟨gb653, 1, none⟩ = some (.int .i64 0) := (blk_cell BK653.out 1).trans rfl; have hcz25_2 : w24.cell? ⟨gb653, 2, none⟩ = some (.int .i64 0) := (blk_cell BK653.out 2).trans rfl; have hfz25_0 := blk_frozen BK653.out 0; have hfz25_1 := blk_frozen BK653.out 1; have hfz25_2 := blk_frozen BK653.out 2))
            refine bodyPost_ret (results_ct rfl _ _ gb653 55 #[.int .i64 t664, .int .i64 t665, .int .i64 t666] (0, 0) _ rfl (by (with_reducible repeat (first | refine blk_drewN ?_ _ | refine blk_drew ?_ | refine blk_alloc ?_ _)); refine blk_put (cs := #[.int .i64 t664, .int .i64 t665, .int .i64 0]) ?_ 2 _ rfl; (with_reducible repeat (first | refine blk_drewN ?_ _ | refine blk_drew ?_ | refine blk_alloc ?_ _)); refine blk_put (cs := #[.int .i64 t664, .int .i64 0, .int .i64 0]) ?_ 1 _ rfl; (with_reducible repeat (first | refine blk_drewN ?_ _ | refine blk_drew ?_ | refine blk_alloc ?_ _)); refine blk_put (cs := #[.int .i64 0, .int .i64 0, .int .i64 0]) ?_ 0 _ rfl; (with_reducible repeat (first | refine blk_drewN ?_ _ | refine blk_drew ?_ | refine blk_alloc ?_ _)); exact BK653.out) Try.underlying55 rfl (by kernel_rfl)) rfl ?_
            exact ⟨by first | rfl | (simp [errW_none, errW_some] <;> rfl) | (simp [*, errW_none, errW_some] <;> rfl), blA⟩
  · replace c6 := Bool.eq_false_iff.mpr c6
    subst c6
    have H1 : (some (0, 0, 0, false)) = some (r1, r2, r3, r4) := by rw [if_neg (show ¬ (false = true) by decide)] at H; exact H
    clear H
    have H := H1
    clear H1
    simp only [Option.some.injEq, Prod.mk.injEq] at H
    obtain ⟨rfl, rfl, rfl, rfl⟩ := H
    go_enter Try.func100, Try.ntmps100
    go_wp2_with (first | ((with_reducible refine gate_dst (N := 8) rfl ?_); refine box_event ?hg (N := 8) ?hd (cs := #[.int .i64 0, .int .i64 0, .int .i64 0]) (t := 55) ?hr ?_; (case hd => rfl); (case hg => rfl); (case hr => first | (go_simp; done) | (go_simp; rfl)); intro gb653 hg w26 hbox hb; have n0_ := Aside0.mk (below_step blA hb); have n1_ := Aside0.mk (hbox); have n2_ := Aside0.mk (szA hg blA); have n3_ := Aside0.mk (szA hg blA); clear HB; have HB := n0_; have BK653 := n1_; have GW653 := n2_; have GE653 := n3_; clear n0_ n1_ n2_ n3_; clear hb hbox hg) | ((with_reducible refine gate_callee (f := 97) rfl ?_); refine goesL_ (some 14) rfl rfl Try.func97 (by kernel_rfl) rfl #[.int .i64 a3] rfl (by (try simp only [List.map_toArray, List.map_cons, List.map_nil]); first | done | rfl | (simp only [List.length_drop, List.length_take]; rfl)) ?_; (with_reducible refine (impl_isLevel.calls a3 false _ A5.out).mono ?_); rintro e w' ⟨rfl, ⟨nd, rfl⟩⟩; refine ⟨_, rfl, ?_⟩; (try (rw [drewN_self w26]; generalize hq_ : World.drewN w26 _ = w26; have n0_ : Aside0 (w26.heap[gb653]? = some (.cells #[.int .i64 0, .int .i64 0, .int .i64 0] 55 (0, 0))) := ⟨by rw [← hq_]; exact (bkA BK653)⟩; have n1_ : Aside0 (Below w.heap.size w w26) := ⟨by rw [← hq_]; exact blA⟩; clear BK653 HB hq_; have BK653 := n0_; have HB := n1_; clear n0_ n1_)); have hcz27_0 : w26.cell? ⟨gb653, 0, none⟩ = some (.int .i64 0) := (blk_cell BK653.out 0).trans rfl; have hcz27_1 : w26.cell? ⟨gb653, 1, none⟩ = some (.int .i64 0) := (blk_cell BK653.out 1).trans rfl; have hcz27_2 : w26.cell? ⟨gb653, 2, none⟩ = some (.int .i64 0) := (blk_cell BK653.out 2).trans rfl; have hfz27_0 := blk_frozen BK653.out 0; have hfz27_1 := blk_frozen BK653.out 1; have hfz27_2 := blk_frozen BK653.out 2))
    refine bodyPost_ret (results_ct rfl _ _ gb653 55 #[.int .i64 0, .int .i64 0, .int .i64 0] (0, 0) _ rfl (by (with_reducible repeat (first | refine blk_drewN ?_ _ | refine blk_drew ?_ | refine blk_alloc ?_ _)); refine blk_put (cs := #[.int .i64 0, .int .i64 0, .int .i64 0]) ?_ 2 _ rfl; (with_reducible repeat (first | refine blk_drewN ?_ _ | refine blk_drew ?_ | refine blk_alloc ?_ _)); refine blk_put (cs := #[.int .i64 0, .int .i64 0, .int .i64 0]) ?_ 1 _ rfl; (with_reducible repeat (first | refine blk_drewN ?_ _ | refine blk_drew ?_ | refine blk_alloc ?_ _)); refine blk_put (cs := #[.int .i64 0, .int .i64 0, .int .i64 0]) ?_ 0 _ rfl; (with_reducible repeat (first | refine blk_drewN ?_ _ | refine blk_drew ?_ | refine blk_alloc ?_ _)); exact BK653.out) Try.underlying55 rfl (by kernel_rfl)) rfl ?_
    exact ⟨by first | rfl | (simp [errW_none, errW_some] <;> rfl) | (simp [*, errW_none, errW_some] <;> rfl), blA⟩
/-! ### impl_moveBall: function 80 -/
def impl_moveBall.j0 : Nat → Int → Int → Int → Int → Int → Int → Int → Int → Int → Int → Option (Int × Int × Int × Bool)
  | 0, _, _, _, _, _, _, _, _, _, _ => none
  | k + 1, x0, x669000, x669001, x669002, x669003, x670000, x670001, x670002, x676000, x676001 => (impl_determinant.f x669000 x669001 x669002 x669003).bind fun t678 => ((impl_valuation.f k x0 t678).bind fun t679 => ((impl_valuation.f k x0 x676001).bind fun t680 => ((impl_ballAt.f k x0 x676000 x676001 (wrap64 ((wrap64 ((wrap64 (t679 + x670000)) + 12)) - (wrap64 (2 * t680))))).bind fun bt681 => (some (bt681.1, bt681.2.1, bt681.2.2.1, bt681.2.2.2)))))
def impl_moveBall.f (k : Nat) (a0 : Int) (a1_0 : Int) (a1_1 : Int) (a1_2 : Int) (a1_3 : Int) (a2_0 : Int) (a2_1 : Int) (a2_2 : Int) : Option (Int × Int × Int × Bool) := (impl_mark.f k a0 a2_0 a2_1 a2_2).bind fun t671 => ((impl_power.f k a0 6).bind fun t672 => ((impl_power.f k a0 (wrap64 (a2_0 + 6))).bind fun t673 => ((impl_valuation.f k a0 (wrap64 ((wrap64 (a1_2 * t671)) + (wrap64 (a1_3 * t672))))).bind fun t676 => ((impl_valuation.f k a0 (wrap64 (a1_2 * t673))).bind fun t677 => (if t676 > t677 then (impl_moveBall.j0 k a0 a1_0 a1_1 a1_2 a1_3 a2_0 a2_1 a2_2 (wrap64 (a1_0 * t673)) (wrap64 (a1_2 * t673))) else (impl_moveBall.j0 k a0 a1_0 a1_1 a1_2 a1_3 a2_0 a2_1 a2_2 (wrap64 ((wrap64 (a1_0 * t671)) + (wrap64 (a1_1 * t672)))) (wrap64 ((wrap64 (a1_2 * t671)) + (wrap64 (a1_3 * t672))))))))))
theorem impl_moveBall.mono_l : ∀ k, (∀ y0 y1 y2 y3 y4 y5 y6 y7 y8 y9, LeO (impl_moveBall.j0 k y0 y1 y2 y3 y4 y5 y6 y7 y8 y9) (impl_moveBall.j0 (k + 1) y0 y1 y2 y3 y4 y5 y6 y7 y8 y9))
  | 0 => fun _ _ _ _ _ _ _ _ _ _ r h => by simp [impl_moveBall.j0] at h
  | k + 1 => by
    have ih0 := impl_moveBall.mono_l k
    · intro y0 y1 y2 y3 y4 y5 y6 y7 y8 y9
      unfold impl_moveBall.j0
      repeat' first
      | (with_reducible exact ih0 _ _ _ _ _ _ _ _ _ _)
      | (with_reducible exact impl_ballAt.mono _ _ _ _ _)
      | (with_reducible exact impl_mark.mono _ _ _ _ _)
      | (with_reducible exact impl_power.mono _ _ _)
      | (with_reducible exact impl_valuation.mono _ _ _)
      | (with_reducible exact LeO.refl _)
      | (with_reducible exact LeO.none _)
      | (with_reducible refine LeO.ite ?_ ?_)
      | (with_reducible refine LeO.bind ?_ (fun _ => ?_))
      | exact ih0 _ _ _ _ _ _ _ _ _ _
      | exact impl_ballAt.mono _ _ _ _ _
      | exact impl_mark.mono _ _ _ _ _
      | exact impl_power.mono _ _ _
      | exact impl_valuation.mono _ _ _
      | exact LeO.none _
      | refine LeO.ite ?_ ?_
      | refine LeO.bind ?_ (fun _ => ?_)
theorem impl_moveBall.mono : ∀ a0 a1 a2 a3 a4 a5 a6 a7 k, LeO (impl_moveBall.f k a0 a1 a2 a3 a4 a5 a6 a7) (impl_moveBall.f (k + 1) a0 a1 a2 a3 a4 a5 a6 a7) := by
  intro a0 a1 a2 a3 a4 a5 a6 a7 k
  have ih0 := impl_moveBall.mono_l k
  unfold impl_moveBall.f
  repeat' first
      | (with_reducible exact ih0 _ _ _ _ _ _ _ _ _ _)
      | (with_reducible exact impl_ballAt.mono _ _ _ _ _)
      | (with_reducible exact impl_mark.mono _ _ _ _ _)
      | (with_reducible exact impl_power.mono _ _ _)
      | (with_reducible exact impl_valuation.mono _ _ _)
      | (with_reducible exact LeO.refl _)
      | (with_reducible exact LeO.none _)
      | (with_reducible refine LeO.ite ?_ ?_)
      | (with_reducible refine LeO.bind ?_ (fun _ => ?_))
      | exact ih0 _ _ _ _ _ _ _ _ _ _
      | exact impl_ballAt.mono _ _ _ _ _
      | exact impl_mark.mono _ _ _ _ _
      | exact impl_power.mono _ _ _
      | exact impl_valuation.mono _ _ _
      | exact LeO.none _
      | refine LeO.ite ?_ ?_
      | refine LeO.bind ?_ (fun _ => ?_)
def impl_moveBall.T1 : Bool × List (List Nat × List Nat) := (true, [([], []), ([], []), ([0, 1], [0, 1]), ([], []), ([3, 2], [3]), ([], []), ([], []), ([6], [6]), ([7], [7]), ([5, 8, 4], [5, 8]), ([2, 9, 0, 1, 2], [2]), ([4, 10, 0, 1, 2, 3, 4, 10], [4]), ([9, 11, 0, 1, 2, 3, 4, 5, 6, 7, 8, 9, 10, 11], [9])])
def impl_moveBall.B1 : List Nat := [0, 0, 3, 0, 15, 0, 0, 64, 192, 511, 1023, 2047, 4095]
theorem impl_moveBall.tab1 : rtab .any (opsOf Try.f80 1) = impl_moveBall.T1 := by kernel_rfl
theorem impl_moveBall.bits1 : waitsOk impl_moveBall.T1.2 impl_moveBall.B1 = true := by kernel_rfl
def impl_moveBall.T4 : Bool × List (List Nat × List Nat) := (true, [([], []), ([], []), ([1], [1]), ([0, 2], [0, 2]), ([], []), ([], []), ([5], [5]), ([4, 6, 3], [4, 6]), ([3, 7], [3, 7])])
def impl_moveBall.B4 : List Nat := [0, 0, 2, 7, 0, 0, 32, 127, 255]
theorem impl_moveBall.tab4 : rtab .any (opsOf Try.f80 4) = impl_moveBall.T4 := by kernel_rfl
theorem impl_moveBall.bits4 : waitsOk impl_moveBall.T4.2 impl_moveBall.B4 = true := by kernel_rfl
def impl_moveBall.T6 : Bool × List (List Nat × List Nat) := (true, [([], []), ([], []), ([1], [1]), ([0, 2, 2], [0, 2]), ([], []), ([4], [4]), ([3, 5], [3, 5]), ([6], [6]), ([], []), ([], []), ([9], [9]), ([8, 10, 3], [8, 10]), ([11], [11]), ([7, 12], [7, 12]), ([13, 11, 0, 1, 2, 3, 4, 5, 6, 7, 8, 9, 10, 11, 12, 13], [13])])
def impl_moveBall.B6 : List Nat := [0, 0, 2, 7, 0, 16, 63, 127, 0, 0, 512, 1807, 3855, 8191, 16383]
theorem impl_moveBall.tab6 : rtab .any (opsOf Try.f80 6) = impl_moveBall.T6 := by kernel_rfl
theorem impl_moveBall.bits6 : waitsOk impl_moveBall.T6.2 impl_moveBall.B6 = true := by kernel_rfl
set_option maxHeartbeats 8000000 in
set_option maxRecDepth 100000 in
theorem impl_moveBall.calls (k : Nat) (a0 : Int) (a1_0 : Int) (a1_1 : Int) (a1_2 : Int) (a1_3 : Int) (a2_0 : Int) (a2_1 : Int) (a2_2 : Int) (r1 : Int) (r2 : Int) (r3 : Int) (r4 : Bool) (w : World) (h : impl_moveBall.f k a0 a1_0 a1_1 a1_2 a1_3 a2_0 a2_1 a2_2 = some (r1, r2, r3, r4)) :
    Calls Try.prog 80 #[.int .i64 a0, .agg #[.int .i64 a1_0, .int .i64 a1_1, .int .i64 a1_2, .int .i64 a1_3], .agg #[.int .i64 a2_0, .int .i64 a2_1, .int .i64 a2_2]] w fun e w' => e = .returned (.tuple #[.agg #[.int .i64 r1, .int .i64 r2, .int .i64 r3], .bool r4]) ∧ Below w.heap.size w w' := by
  have hu25 := Try.underlying25
  have hu55 := Try.underlying55
  have hu22 := Try.underlying22
  have HB := Aside0.mk (Below.refl w.heap.size w)
  have H : ((impl_mark.f k a0 a2_0 a2_1 a2_2).bind fun t671 => ((impl_power.f k a0 6).bind fun t672 => ((impl_power.f k a0 (wrap64 (a2_0 + 6))).bind fun t673 => ((impl_valuation.f k a0 (wrap64 ((wrap64 (a1_2 * t671)) + (wrap64 (a1_3 * t672))))).bind fun t676 => ((impl_valuation.f k a0 (wrap64 (a1_2 * t673))).bind fun t677 => (if t676 > t677 then (impl_moveBall.j0 k a0 a1_0 a1_1 a1_2 a1_3 a2_0 a2_1 a2_2 (wrap64 (a1_0 * t673)) (wrap64 (a1_2 * t673))) else (impl_moveBall.j0 k a0 a1_0 a1_1 a1_2 a1_3 a2_0 a2_1 a2_2 (wrap64 ((wrap64 (a1_0 * t671)) + (wrap64 (a1_1 * t672)))) (wrap64 ((wrap64 (a1_2 * t671)) + (wrap64 (a1_3 * t672))))))))))) = some (r1, r2, r3, r4) := h
  clear h
  replace H := Option.bind_eq_some_iff.mp H
  obtain ⟨t671, A40, H⟩ := H
  replace H : ((impl_power.f k a0 6).bind fun t672 => ((impl_power.f k a0 (wrap64 (a2_0 + 6))).bind fun t673 => ((impl_valuation.f k a0 (wrap64 ((wrap64 (a1_2 * t671)) + (wrap64 (a1_3 * t672))))).bind fun t676 => ((impl_valuation.f k a0 (wrap64 (a1_2 * t673))).bind fun t677 => (if t676 > t677 then (impl_moveBall.j0 k a0 a1_0 a1_1 a1_2 a1_3 a2_0 a2_1 a2_2 (wrap64 (a1_0 * t673)) (wrap64 (a1_2 * t673))) else (impl_moveBall.j0 k a0 a1_0 a1_1 a1_2 a1_3 a2_0 a2_1 a2_2 (wrap64 ((wrap64 (a1_0 * t671)) + (wrap64 (a1_1 * t672)))) (wrap64 ((wrap64 (a1_2 * t671)) + (wrap64 (a1_3 * t672)))))))))) = some (r1, r2, r3, r4) := H
  have A4 := Aside0.mk A40
  clear A40
  replace H := Option.bind_eq_some_iff.mp H
  obtain ⟨t672, A50, H⟩ := H
  replace H : ((impl_power.f k a0 (wrap64 (a2_0 + 6))).bind fun t673 => ((impl_valuation.f k a0 (wrap64 ((wrap64 (a1_2 * t671)) + (wrap64 (a1_3 * t672))))).bind fun t676 => ((impl_valuation.f k a0 (wrap64 (a1_2 * t673))).bind fun t677 => (if t676 > t677 then (impl_moveBall.j0 k a0 a1_0 a1_1 a1_2 a1_3 a2_0 a2_1 a2_2 (wrap64 (a1_0 * t673)) (wrap64 (a1_2 * t673))) else (impl_moveBall.j0 k a0 a1_0 a1_1 a1_2 a1_3 a2_0 a2_1 a2_2 (wrap64 ((wrap64 (a1_0 * t671)) + (wrap64 (a1_1 * t672)))) (wrap64 ((wrap64 (a1_2 * t671)) + (wrap64 (a1_3 * t672))))))))) = some (r1, r2, r3, r4) := H
  have A5 := Aside0.mk A50
  clear A50
  replace H := Option.bind_eq_some_iff.mp H
  obtain ⟨t673, A60, H⟩ := H
  replace H : ((impl_valuation.f k a0 (wrap64 ((wrap64 (a1_2 * t671)) + (wrap64 (a1_3 * t672))))).bind fun t676 => ((impl_valuation.f k a0 (wrap64 (a1_2 * t673))).bind fun t677 => (if t676 > t677 then (impl_moveBall.j0 k a0 a1_0 a1_1 a1_2 a1_3 a2_0 a2_1 a2_2 (wrap64 (a1_0 * t673)) (wrap64 (a1_2 * t673))) else (impl_moveBall.j0 k a0 a1_0 a1_1 a1_2 a1_3 a2_0 a2_1 a2_2 (wrap64 ((wrap64 (a1_0 * t671)) + (wrap64 (a1_1 * t672)))) (wrap64 ((wrap64 (a1_2 * t671)) + (wrap64 (a1_3 * t672)))))))) = some (r1, r2, r3, r4) := H
  have A6 := Aside0.mk A60
  clear A60
  replace H := Option.bind_eq_some_iff.mp H
  obtain ⟨t676, A70, H⟩ := H
  replace H : ((impl_valuation.f k a0 (wrap64 (a1_2 * t673))).bind fun t677 => (if t676 > t677 then (impl_moveBall.j0 k a0 a1_0 a1_1 a1_2 a1_3 a2_0 a2_1 a2_2 (wrap64 (a1_0 * t673)) (wrap64 (a1_2 * t673))) else (impl_moveBall.j0 k a0 a1_0 a1_1 a1_2 a1_3 a2_0 a2_1 a2_2 (wrap64 ((wrap64 (a1_0 * t671)) + (wrap64 (a1_1 * t672)))) (wrap64 ((wrap64 (a1_2 * t671)) + (wrap64 (a1_3 * t672))))))) = some (r1, r2, r3, r4) := H
  have A7 := Aside0.mk A70
  clear A70
  replace H := Option.bind_eq_some_iff.mp H
  obtain ⟨t677, A80, H⟩ := H
  replace H : (if t676 > t677 then (impl_moveBall.j0 k a0 a1_0 a1_1 a1_2 a1_3 a2_0 a2_1 a2_2 (wrap64 (a1_0 * t673)) (wrap64 (a1_2 * t673))) else (impl_moveBall.j0 k a0 a1_0 a1_1 a1_2 a1_3 a2_0 a2_1 a2_2 (wrap64 ((wrap64 (a1_0 * t671)) + (wrap64 (a1_1 * t672)))) (wrap64 ((wrap64 (a1_2 * t671)) + (wrap64 (a1_3 * t672)))))) = some (r1, r2, r3, r4) := H
  have A8 := Aside0.mk A80
  clear A80
  have HC9 := Aside0.mk H
  clear H
  go_enter Try.func80, Try.ntmps80
  try go_wp2_with (first | ((with_reducible refine gate_dst (N := 4) rfl ?_); refine box_event ?hg (N := 4) ?hd (cs := #[.int .i64 a1_0, .int .i64 a1_1, .int .i64 a1_2, .int .i64 a1_3]) (t := 25) ?hr ?_; (case hd => rfl); (case hg => rfl); (case hr => first | (go_simp; done) | (go_simp; rfl)); intro gb668 hg w10 hbox hb; have n0_ := Aside0.mk (below_step blA hb); have n1_ := Aside0.mk (hbox); have n2_ := Aside0.mk (szA hg blA); have n3_ := Aside0.mk (szA hg blA); clear HB; have HB := n0_; have BK668 := n1_; have GW668 := n2_; have GE668 := n3_; clear n0_ n1_ n2_ n3_; clear hb hbox hg) | ((with_reducible refine gate_dst (N := 5) rfl ?_); refine box_event ?hg (N := 5) ?hd (cs := #[.int .i64 a2_0, .int .i64 a2_1, .int .i64 a2_2]) (t := 55) ?hr ?_; (case hd => rfl); (case hg => rfl); (case hr => first | (go_simp; done) | (go_simp; rfl)); intro gb669 hg w11 hbox hb; have n0_ := Aside0.mk (blk_below (bkA BK668) hb); have n1_ := Aside0.mk (below_step blA hb); have n2_ := Aside0.mk (hbox); have n3_ := Aside0.mk (szA hg blA); have n4_ := Aside0.mk (szA hg blA); have n5_ := Aside0.mk (neA hg (bkA BK668)); have n6_ := Aside0.mk (neB hg (bkA BK668)); clear BK668; clear HB; have BK668 := n0_; have HB := n1_; have BK669 := n2_; have GW669 := n3_; have GE669 := n4_; have NB668_669 := n5_; have NB669_668 := n6_; clear n0_ n1_ n2_ n3_ n4_ n5_ n6_; clear hb hbox hg) | ((with_reducible refine gate_dst (N := 6) rfl ?_); refine box_event ?hg (N := 6) ?hd (cs := #[.int .i64 0, .int .i64 0, .int .i64 0]) (t := 55) ?hr ?_; (case hd => rfl); (case hg => rfl); (case hr => first | (go_simp; done) | (go_simp; rfl)); intro gb670 hg w12 hbox hb; have n0_ := Aside0.mk (blk_below (bkA BK668) hb); have n1_ := Aside0.mk (blk_below (bkA BK669) hb); have n2_ := Aside0.mk (below_step blA hb); have n3_ := Aside0.mk (hbox); have n4_ := Aside0.mk (szA hg blA); have n5_ := Aside0.mk (szA hg blA); have n6_ := Aside0.mk (neA hg (bkA BK668)); have n7_ := Aside0.mk (neB hg (bkA BK668)); have n8_ := Aside0.mk (neA hg (bkA BK669)); have n9_ := Aside0.mk (neB hg (bkA BK669)); clear BK668; clear BK669; clear HB; have BK668 := n0_; have BK669 := n1_; have HB := n2_; have BK670 := n3_; have GW670 := n4_; have GE670 := n5_; have NB668_670 := n6_; have NB670_668 := n7_; have NB669_670 := n8_; have NB670_669 := n9_; clear n0_ n1_ n2_ n3_ n4_ n5_ n6_ n7_ n8_ n9_; clear hb hbox hg))
  have n0_ := Aside0.mk (blk_drew BK668.out)
  have n1_ := Aside0.mk (blk_drew BK669.out)
  have n2_ := Aside0.mk (blk_drew BK670.out)
  have n3_ := Aside0.mk (below_drew1 HB.out)
  clear BK668
  clear BK669
  clear BK670
  clear HB
  have BK668 := n0_
  have BK669 := n1_
  have BK670 := n2_
  have HB := n3_
  clear n0_ n1_ n2_ n3_
  refine start_ (n := 13) (S := fun w' => w'.cell? ⟨gb669, 0, none⟩ = some (.int .i64 a2_0) ∧ w'.cell? ⟨gb669, 1, none⟩ = some (.int .i64 a2_1) ∧ w'.cell? ⟨gb669, 2, none⟩ = some (.int .i64 a2_2)) (ds := []) #[false, false, false, false, false, false, false, false, false, false, false, false, false] (by kernel_rfl) rfl rfl ⟨(blk_cell BK669.out 0).trans rfl, (blk_cell BK669.out 1).trans rfl, (blk_cell BK669.out 2).trans rfl⟩ (fun hHeld => ?_); refine with_tabW impl_moveBall.tab1 impl_moveBall.bits1 (fun HT_ HW_ => ?_)
  generalize w12.drew = w13 at BK668 BK669 BK670 HB hHeld ⊢
  refine pure_ (i := 0) (N := some 14) (v := ?_) (a' := ?_) #[true, false, false, false, false, false, false, false, false, false, false, false, false] rfl rfl (any_of HT_.out (by kernel_rfl)) (fun _ _ _ h => h) (Or.inl ⟨by rfl, ?_⟩) ?_ ?_
  rotate_left
  · intro w'
    go_simp
    with_reducible rfl
  rotate_left
  · simp only [Act.put, List.setIfInBounds_toArray, List.set_cons_zero, List.set_cons_succ, i64_w, i32_w]
    rfl
  refine pure_ (i := 3) (N := some 17) (v := ?_) (a' := ?_) #[true, false, false, true, false, false, false, false, false, false, false, false, false] rfl rfl (any_of HT_.out (by kernel_rfl)) (fun _ _ _ h => h) (Or.inl ⟨by rfl, ?_⟩) ?_ ?_
  rotate_left
  · intro w'
    go_simp
    with_reducible rfl
  rotate_left
  · simp only [Act.put, List.setIfInBounds_toArray, List.set_cons_zero, List.set_cons_succ, i64_w, i32_w]
    rfl
  refine pure_ (i := 5) (N := some 19) (v := ?_) (a' := ?_) #[true, false, false, true, false, true, false, false, false, false, false, false, false] rfl rfl (any_of HT_.out (by kernel_rfl)) (fun _ _ _ h => h) (Or.inl ⟨by rfl, ?_⟩) ?_ ?_
  rotate_left
  · intro w'
    go_simp
    with_reducible rfl
  rotate_left
  · simp only [Act.put, List.setIfInBounds_toArray, List.set_cons_zero, List.set_cons_succ, i64_w, i32_w]
    rfl
  refine pure_ (i := 6) (N := some 20) (v := ?_) (a' := ?_) #[true, false, false, true, false, true, true, false, false, false, false, false, false] rfl rfl (any_of HT_.out (by kernel_rfl)) (fun _ _ _ h => h) (Or.inl ⟨by rfl, ?_⟩) ?_ ?_
  rotate_left
  · intro w'
    go_simp
    with_reducible rfl
  rotate_left
  · simp only [Act.put, List.setIfInBounds_toArray, List.set_cons_zero, List.set_cons_succ, i64_w, i32_w]
    rfl
  refine take_ (i := 1) (N := some 15) (v := ?_) (a' := ?_) #[true, true, false, true, false, true, true, false, false, false, false, false, false] rfl rfl (take_ofW HT_.out HW_.out (by kernel_rfl)) (fun _ _ _ h => h) (Or.inl ⟨by rfl, ?_⟩) hHeld ?_ ?_
  rotate_left
  · rintro w' ⟨s0, s1, s2⟩
    go_simp
    with_reducible rfl
  rotate_left
  · simp only [Act.put, List.setIfInBounds_toArray, List.set_cons_zero, List.set_cons_succ, i64_w, i32_w]
    rfl
  refine take_ (i := 7) (N := some 21) (v := ?_) (a' := ?_) #[true, true, false, true, false, true, true, true, false, false, false, false, false] rfl rfl (take_ofW HT_.out HW_.out (by kernel_rfl)) (fun _ _ _ h => h) (Or.inl ⟨by rfl, ?_⟩) hHeld ?_ ?_
  rotate_left
  · rintro w' ⟨s0, s1, s2⟩
    go_simp
    with_reducible rfl
  rotate_left
  · simp only [Act.put, List.setIfInBounds_toArray, List.set_cons_zero, List.set_cons_succ, i64_w, i32_w]
    rfl
  refine pure_ (i := 8) (N := some 22) (v := ?_) (a' := ?_) #[true, true, false, true, false, true, true, true, true, false, false, false, false] rfl rfl (any_of HT_.out (by kernel_rfl)) (fun _ _ _ h => h) (Or.inl ⟨by rfl, ?_⟩) ?_ ?_
  rotate_left
  · intro w'
    go_simp
    with_reducible rfl
  rotate_left
  · simp only [Act.put, List.setIfInBounds_toArray, List.set_cons_zero, List.set_cons_succ, i64_w, i32_w]
    rfl
  refine one_ (i := 2) (N := some 16) #[true, true, true, true, false, true, true, true, true, false, false, false, false] rfl rfl (one_of HT_.out (by kernel_rfl)) (by decide) (fun K hK => ?_)
  refine goes_ Try.func99 (by kernel_rfl) rfl #[.int .i64 a0, .agg #[.int .i64 a2_0, .int .i64 a2_1, .int .i64 a2_2]] (by rfl) rfl rfl (by (try simp only [List.map_toArray, List.map_cons, List.map_nil]); first | done | rfl | (simp only [List.length_drop, List.length_take]; rfl)) ?_
  with_reducible refine (impl_mark.calls k a0 a2_0 a2_1 a2_2 t671 _ A4.out).mono ?_
  rintro e w14 ⟨rfl, hb⟩
  refine ⟨_, rfl, ?_⟩
  have n0_ := Aside0.mk (blk_below (bkA BK668) hb)
  have n1_ := Aside0.mk (blk_below (bkA BK669) hb)
  have n2_ := Aside0.mk (blk_below (bkA BK670) hb)
  have n3_ := Aside0.mk (below_step blA hb)
  clear BK668
  clear BK669
  clear BK670
  clear HB
  have BK668 := n0_
  have BK669 := n1_
  have BK670 := n2_
  have HB := n3_
  clear n0_ n1_ n2_ n3_
  (try clear hb)
  (try clear hb2)
  (try clear hk)
  (try clear hi)
  refine hK.out _ _ ⟨(blk_cell BK669.out 0).trans rfl, (blk_cell BK669.out 1).trans rfl, (blk_cell BK669.out 2).trans rfl⟩ (fun hHeld => ?_)
  clear hK K
  refine norm_ (a' := ?_) ?_ ?_
  rotate_left
  · show Act.put _ (some 16) _ = _
    simp only [Act.put, List.setIfInBounds_toArray, List.set_cons_zero, List.set_cons_succ, i64_w, i32_w]
    rfl
  refine one_ (i := 4) (N := some 18) #[true, true, true, true, true, true, true, true, true, false, false, false, false] rfl rfl (one_of HT_.out (by kernel_rfl)) (by decide) (fun K hK => ?_)
  refine goes_ Try.func98 (by kernel_rfl) rfl #[.int .i64 a0, .int .i64 6] (by rfl) rfl rfl (by (try simp only [List.map_toArray, List.map_cons, List.map_nil]); first | done | rfl | (simp only [List.length_drop, List.length_take]; rfl)) ?_
  with_reducible refine (impl_power.calls k a0 6 t672 _ A5.out).mono ?_
  rintro e w' ⟨rfl, ⟨nd, rfl⟩⟩
  refine ⟨_, rfl, ?_⟩
  refine hK.out _ _ ⟨(blk_cell BK669.out 0).trans rfl, (blk_cell BK669.out 1).trans rfl, (blk_cell BK669.out 2).trans rfl⟩ (fun hHeld => ?_)
  clear hK K
  refine norm_ (a' := ?_) ?_ ?_
  rotate_left
  · show Act.put _ (some 18) _ = _
    simp only [Act.put, List.setIfInBounds_toArray, List.set_cons_zero, List.set_cons_succ, i64_w, i32_w]
    rfl
  refine one_ (i := 9) (N := some 23) #[true, true, true, true, true, true, true, true, true, true, false, false, false] rfl rfl (one_of HT_.out (by kernel_rfl)) (by decide) (fun K hK => ?_)
  refine goes_ Try.func98 (by kernel_rfl) rfl #[.int .i64 a0, .int .i64 (wrap64 (a2_0 + 6))] (by rfl) rfl rfl (by (try simp only [List.map_toArray, List.map_cons, List.map_nil]); first | done | rfl | (simp only [List.length_drop, List.length_take]; rfl)) ?_
  with_reducible refine (impl_power.calls k a0 (wrap64 (a2_0 + 6)) t673 _ A6.out).mono ?_
  rintro e w' ⟨rfl, ⟨nd, rfl⟩⟩
  refine ⟨_, rfl, ?_⟩
  refine hK.out _ _ ⟨(blk_cell BK669.out 0).trans rfl, (blk_cell BK669.out 1).trans rfl, (blk_cell BK669.out 2).trans rfl⟩ (fun hHeld => ?_)
  clear hK K
  refine norm_ (a' := ?_) ?_ ?_
  rotate_left
  · show Act.put _ (some 23) _ = _
    simp only [Act.put, List.setIfInBounds_toArray, List.set_cons_zero, List.set_cons_succ, i64_w, i32_w]
    rfl
  refine pure_ (i := 10) (N := some 8) (v := ?_) (a' := ?_) #[true, true, true, true, true, true, true, true, true, true, true, false, false] rfl rfl (any_of HT_.out (by kernel_rfl)) (fun _ _ _ h => h) (Or.inl ⟨by rfl, ?_⟩) ?_ ?_
  rotate_left
  · intro w'
    go_simp
    with_reducible rfl
  rotate_left
  · simp only [Act.put, List.setIfInBounds_toArray, List.set_cons_zero, List.set_cons_succ, i64_w, i32_w]
    rfl
  refine pure_ (i := 11) (N := some 9) (v := ?_) (a' := ?_) #[true, true, true, true, true, true, true, true, true, true, true, true, false] rfl rfl (any_of HT_.out (by kernel_rfl)) (fun _ _ _ h => h) (Or.inl ⟨by rfl, ?_⟩) ?_ ?_
  rotate_left
  · intro w'
    go_simp
    with_reducible rfl
  rotate_left
  · simp only [Act.put, List.setIfInBounds_toArray, List.set_cons_zero, List.set_cons_succ, i64_w, i32_w]
    rfl
  refine pure_ (i := 12) (N := some 10) (v := ?_) (a' := ?_) #[true, true, true, true, true, true, true, true, true, true, true, true, true] rfl rfl (any_of HT_.out (by kernel_rfl)) (fun _ _ _ h => h) (Or.inl ⟨by rfl, ?_⟩) ?_ ?_
  rotate_left
  · intro w'
    go_simp
    with_reducible rfl
  rotate_left
  · simp only [Act.put, List.setIfInBounds_toArray, List.set_cons_zero, List.set_cons_succ, i64_w, i32_w]
    rfl
  refine done_ (done_of HT_.out (by kernel_rfl)) ?_
  have hnb15 := NB668_669.out
  have hnc15 := NB669_668.out
  have hnb16 := NB668_670.out
  have hnc16 := NB670_668.out
  have hcz17_0 : w14.cell? ⟨gb668, 0, none⟩ = some (.int .i64 a1_0) := (blk_cell BK668.out 0).trans rfl
  have hcz17_1 : w14.cell? ⟨gb668, 1, none⟩ = some (.int .i64 a1_1) := (blk_cell BK668.out 1).trans rfl
  have hcz17_2 : w14.cell? ⟨gb668, 2, none⟩ = some (.int .i64 a1_2) := (blk_cell BK668.out 2).trans rfl
  have hcz17_3 : w14.cell? ⟨gb668, 3, none⟩ = some (.int .i64 a1_3) := (blk_cell BK668.out 3).trans rfl
  have hfz17_0 := blk_frozen BK668.out 0
  have hfz17_1 := blk_frozen BK668.out 1
  have hfz17_2 := blk_frozen BK668.out 2
  have hfz17_3 := blk_frozen BK668.out 3
  try go_wp2_with (first | ((with_reducible refine gate_dst (N := 11) rfl ?_); refine box_event ?hg (N := 11) ?hd (cs := #[.int .i64 0, .int .i64 0]) (t := 22) ?hr ?_; (case hd => rfl); (case hg => rfl); (case hr => first | (go_simp; done) | (go_simp; rfl)); intro gb674 hg w18 hbox hb; have n0_ := Aside0.mk (blk_below (bkA BK668) hb); have n1_ := Aside0.mk (blk_below (bkA BK669) hb); have n2_ := Aside0.mk (blk_below (bkA BK670) hb); have n3_ := Aside0.mk (below_step blA hb); have n4_ := Aside0.mk (hbox); have n5_ := Aside0.mk (szA hg blA); have n6_ := Aside0.mk (szA hg blA); have n7_ := Aside0.mk (neA hg (bkA BK668)); have n8_ := Aside0.mk (neB hg (bkA BK668)); have n9_ := Aside0.mk (neA hg (bkA BK669)); have n10_ := Aside0.mk (neB hg (bkA BK669)); have n11_ := Aside0.mk (neA hg (bkA BK670)); have n12_ := Aside0.mk (neB hg (bkA BK670)); clear BK668; clear BK669; clear BK670; clear HB; have BK668 := n0_; have BK669 := n1_; have BK670 := n2_; have HB := n3_; have BK674 := n4_; have GW674 := n5_; have GE674 := n6_; have NB668_674 := n7_; have NB674_668 := n8_; have NB669_674 := n9_; have NB674_669 := n10_; have NB670_674 := n11_; have NB674_670 := n12_; clear n0_ n1_ n2_ n3_ n4_ n5_ n6_ n7_ n8_ n9_ n10_ n11_ n12_; clear hb hbox hg; have hnb19 := NB674_668.out; have hnc19 := NB668_674.out; have hnb20 := NB674_669.out; have hnc20 := NB669_674.out; have hnb21 := NB674_670.out; have hnc21 := NB670_674.out; have hcz22_0 : w18.cell? ⟨gb674, 0, none⟩ = some (.int .i64 0) := (blk_cell BK674.out 0).trans rfl; have hcz22_1 : w18.cell? ⟨gb674, 1, none⟩ = some (.int .i64 0) := (blk_cell BK674.out 1).trans rfl; have hfz22_0 := blk_frozen BK674.out 0; have hfz22_1 := blk_frozen BK674.out 1; have hcz23_0 : w18.cell? ⟨gb668, 0, none⟩ = some (.int .i64 a1_0) := (blk_cell BK668.out 0).trans rfl; have hcz23_1 : w18.cell? ⟨gb668, 1, none⟩ = some (.int .i64 a1_1) := (blk_cell BK668.out 1).trans rfl; have hcz23_2 : w18.cell? ⟨gb668, 2, none⟩ = some (.int .i64 a1_2) := (blk_cell BK668.out 2).trans rfl; have hcz23_3 : w18.cell? ⟨gb668, 3, none⟩ = some (.int .i64 a1_3) := (blk_cell BK668.out 3).trans rfl; have hfz23_0 := blk_frozen BK668.out 0; have hfz23_1 := blk_frozen BK668.out 1; have hfz23_2 := blk_frozen BK668.out 2; have hfz23_3 := blk_frozen BK668.out 3) | ((with_reducible refine gate_dst (N := 12) rfl ?_); refine box_event ?hg (N := 12) ?hd (cs := #[.int .i64 0, .int .i64 0]) (t := 22) ?hr ?_; (case hd => rfl); (case hg => rfl); (case hr => first | (go_simp; done) | (go_simp; rfl)); intro gb675 hg w24 hbox hb; have n0_ := Aside0.mk (blk_below (g := gb668) (o := .cells #[.int .i64 a1_0, .int .i64 a1_1, .int .i64 a1_2, .int .i64 a1_3] 25 (0, 0)) (by (with_reducible repeat (first | refine blk_drewN ?_ _ | refine blk_drew ?_ | refine blk_alloc ?_ _)); refine blk_far ?_ NB668_674.out _; (with_reducible repeat (first | refine blk_drewN ?_ _ | refine blk_drew ?_ | refine blk_alloc ?_ _)); refine blk_far ?_ NB668_674.out _; (with_reducible repeat (first | refine blk_drewN ?_ _ | refine blk_drew ?_ | refine blk_alloc ?_ _)); exact BK668.out) hb); have n1_ := Aside0.mk (blk_below (g := gb669) (o := .cells #[.int .i64 a2_0, .int .i64 a2_1, .int .i64 a2_2] 55 (0, 0)) (by (with_reducible repeat (first | refine blk_drewN ?_ _ | refine blk_drew ?_ | refine blk_alloc ?_ _)); refine blk_far ?_ NB669_674.out _; (with_reducible repeat (first | refine blk_drewN ?_ _ | refine blk_drew ?_ | refine blk_alloc ?_ _)); refine blk_far ?_ NB669_674.out _; (with_reducible repeat (first | refine blk_drewN ?_ _ | refine blk_drew ?_ | refine blk_alloc ?_ _)); exact BK669.out) hb); have n2_ := Aside0.mk (blk_below (g := gb670) (o := .cells #[.int .i64 0, .int .i64 0, .int .i64 0] 55 (0, 0)) (by (with_reducible repeat (first | refine blk_drewN ?_ _ | refine blk_drew ?_ | refine blk_alloc ?_ _)); refine blk_far ?_ NB670_674.out _; (with_reducible repeat (first | refine blk_drewN ?_ _ | refine blk_drew ?_ | refine blk_alloc ?_ _)); refine blk_far ?_ NB670_674.out _; (with_reducible repeat (first | refine blk_drewN ?_ _ | refine blk_drew ?_ | refine blk_alloc ?_ _)); exact BK670.out) hb); have n3_ := Aside0.mk (blk_below (g := gb674) (o := .cells #[.int .i64 (wrap64 (a1_0 * t673)), .int .i64 (wrap64 (a1_2 * t673))] 22 (0, 0)) (by (with_reducible repeat (first | refine blk_drewN ?_ _ | refine blk_drew ?_ | refine blk_alloc ?_ _)); refine blk_put (cs := #[.int .i64 (wrap64 (a1_0 * t673)), .int .i64 0]) ?_ 1 _ rfl; (with_reducible repeat (first | refine blk_drewN ?_ _ | refine blk_drew ?_ | refine blk_alloc ?_ _)); refine blk_put (cs := #[.int .i64 0, .int .i64 0]) ?_ 0 _ rfl; (with_reducible repeat (first | refine blk_drewN ?_ _ | refine blk_drew ?_ | refine blk_alloc ?_ _)); exact BK674.out) hb); have n4_ := Aside0.mk (below_step blA hb); have n5_ := Aside0.mk (hbox); have n6_ := Aside0.mk (szA hg blA); have n7_ := Aside0.mk (szA hg blA); have n8_ := Aside0.mk ((by rw [hg]; exact Nat.ne_of_lt (blk_lt (g := gb668) (o := .cells #[.int .i64 a1_0, .int .i64 a1_1, .int .i64 a1_2, .int .i64 a1_3] 25 (0, 0)) (by (with_reducible repeat (first | refine blk_drewN ?_ _ | refine blk_drew ?_ | refine blk_alloc ?_ _)); refine blk_far ?_ NB668_674.out _; (with_reducible repeat (first | refine blk_drewN ?_ _ | refine blk_drew ?_ | refine blk_alloc ?_ _)); refine blk_far ?_ NB668_674.out _; (with_reducible repeat (first | refine blk_drewN ?_ _ | refine blk_drew ?_ | refine blk_alloc ?_ _)); exact BK668.out)) : gb668 ≠ gb675)); have n9_ := Aside0.mk ((by rw [hg]; exact Nat.ne_of_gt (blk_lt (g := gb668) (o := .cells #[.int .i64 a1_0, .int .i64 a1_1, .int .i64 a1_2, .int .i64 a1_3] 25 (0, 0)) (by (with_reducible repeat (first | refine blk_drewN ?_ _ | refine blk_drew ?_ | refine blk_alloc ?_ _)); refine blk_far ?_ NB668_674.out _; (with_reducible repeat (first | refine blk_drewN ?_ _ | refine blk_drew ?_ | refine blk_alloc ?_ _)); refine blk_far ?_ NB668_674.out _; (with_reducible repeat (first | refine blk_drewN ?_ _ | refine blk_drew ?_ | refine blk_alloc ?_ _)); exact BK668.out)) : gb675 ≠ gb668)); have n10_ := Aside0.mk ((by rw [hg]; exact Nat.ne_of_lt (blk_lt (g := gb669) (o := .cells #[.int .i64 a2_0, .int .i64 a2_1, .int .i64 a2_2] 55 (0, 0)) (by (with_reducible repeat (first | refine blk_drewN ?_ _ | refine blk_drew ?_ | refine blk_alloc ?_ _)); refine blk_far ?_ NB669_674.out _; (with_reducible repeat (first | refine blk_drewN ?_ _ | refine blk_drew ?_ | refine blk_alloc ?_ _)); refine blk_far ?_ NB669_674.out _; (with_reducible repeat (first | refine blk_drewN ?_ _ | refine blk_drew ?_ | refine blk_alloc ?_ _)); exact BK669.out)) : gb669 ≠ gb675)); have n11_ := Aside0.mk ((by rw [hg]; exact Nat.ne_of_gt (blk_lt (g := gb669) (o := .cells #[.int .i64 a2_0, .int .i64 a2_1, .int .i64 a2_2] 55 (0, 0)) (by (with_reducible repeat (first | refine blk_drewN ?_ _ | refine blk_drew ?_ | refine blk_alloc ?_ _)); refine blk_far ?_ NB669_674.out _; (with_reducible repeat (first | refine blk_drewN ?_ _ | refine blk_drew ?_ | refine blk_alloc ?_ _)); refine blk_far ?_ NB669_674.out _; (with_reducible repeat (first | refine blk_drewN ?_ _ | refine blk_drew ?_ | refine blk_alloc ?_ _)); exact BK669.out)) : gb675 ≠ gb669)); have n12_ := Aside0.mk ((by rw [hg]; exact Nat.ne_of_lt (blk_lt (g := gb670) (o := .cells #[.int .i64 0, .int .i64 0, .int .i64 0] 55 (0, 0)) (by (with_reducible repeat (first | refine blk_drewN ?_ _ | refine blk_drew ?_ | refine blk_alloc ?_ _)); refine blk_far ?_ NB670_674.out _; (with_reducible repeat (first | refine blk_drewN ?_ _ | refine blk_drew ?_ | refine blk_alloc ?_ _)); refine blk_far ?_ NB670_674.out _; (with_reducible repeat (first | refine blk_drewN ?_ _ | refine blk_drew ?_ | refine blk_alloc ?_ _)); exact BK670.out)) : gb670 ≠ gb675)); have n13_ := Aside0.mk ((by rw [hg]; exact Nat.ne_of_gt (blk_lt (g := gb670) (o := .cells #[.int .i64 0, .int .i64 0, .int .i64 0] 55 (0, 0)) (by (with_reducible repeat (first | refine blk_drewN ?_ _ | refine blk_drew ?_ | refine blk_alloc ?_ _)); refine blk_far ?_ NB670_674.out _; (with_reducible repeat (first | refine blk_drewN ?_ _ | refine blk_drew ?_ | refine blk_alloc ?_ _)); refine blk_far ?_ NB670_674.out _; (with_reducible repeat (first | refine blk_drewN ?_ _ | refine blk_drew ?_ | refine blk_alloc ?_ _)); exact BK670.out)) : gb675 ≠ gb670)); have n14_ := Aside0.mk ((by rw [hg]; exact Nat.ne_of_lt (blk_lt (g := gb674) (o := .cells #[.int .i64 (wrap64 (a1_0 * t673)), .int .i64 (wrap64 (a1_2 * t673))] 22 (0, 0)) (by (with_reducible repeat (first | refine blk_drewN ?_ _ | refine blk_drew ?_ | refine blk_alloc ?_ _)); refine blk_put (cs := #[.int .i64 (wrap64 (a1_0 * t673)), .int .i64 0]) ?_ 1 _ rfl; (with_reducible repeat (first | refine blk_drewN ?_ _ | refine blk_drew ?_ | refine blk_alloc ?_ _)); refine blk_put (cs := #[.int .i64 0, .int .i64 0]) ?_ 0 _ rfl; (with_reducible repeat (first | refine blk_drewN ?_ _ | refine blk_drew ?_ | refine blk_alloc ?_ _)); exact BK674.out)) : gb674 ≠ gb675)); have n15_ := Aside0.mk ((by rw [hg]; exact Nat.ne_of_gt (blk_lt (g := gb674) (o := .cells #[.int .i64 (wrap64 (a1_0 * t673)), .int .i64 (wrap64 (a1_2 * t673))] 22 (0, 0)) (by (with_reducible repeat (first | refine blk_drewN ?_ _ | refine blk_drew ?_ | refine blk_alloc ?_ _)); refine blk_put (cs := #[.int .i64 (wrap64 (a1_0 * t673)), .int .i64 0]) ?_ 1 _ rfl; (with_reducible repeat (first | refine blk_drewN ?_ _ | refine blk_drew ?_ | refine blk_alloc ?_ _)); refine blk_put (cs := #[.int .i64 0, .int .i64 0]) ?_ 0 _ rfl; (with_reducible repeat (first | refine blk_drewN ?_ _ | refine blk_drew ?_ | refine blk_alloc ?_ _)); exact BK674.out)) : gb675 ≠ gb674)); clear BK668; clear BK669; clear BK670; clear BK674; clear HB; have BK668 := n0_; have BK669 := n1_; have BK670 := n2_; have BK674 := n3_; have HB := n4_; have BK675 := n5_; have GW675 := n6_; have GE675 := n7_; have NB668_675 := n8_; have NB675_668 := n9_; have NB669_675 := n10_; have NB675_669 := n11_; have NB670_675 := n12_; have NB675_670 := n13_; have NB674_675 := n14_; have NB675_674 := n15_; clear n0_ n1_ n2_ n3_ n4_ n5_ n6_ n7_ n8_ n9_ n10_ n11_ n12_ n13_ n14_ n15_; clear hb hbox hg; have hnb25 := NB675_668.out; have hnc25 := NB668_675.out; have hnb26 := NB675_669.out; have hnc26 := NB669_675.out; have hnb27 := NB675_670.out; have hnc27 := NB670_675.out; have hnb28 := NB675_674.out; have hnc28 := NB674_675.out; have hcz29_0 : w24.cell? ⟨gb675, 0, none⟩ = some (.int .i64 0) := (blk_cell BK675.out 0).trans rfl; have hcz29_1 : w24.cell? ⟨gb675, 1, none⟩ = some (.int .i64 0) := (blk_cell BK675.out 1).trans rfl; have hfz29_0 := blk_frozen BK675.out 0; have hfz29_1 := blk_frozen BK675.out 1))
  have n0_ : Aside0 (((w24.setCell ⟨gb675, 0, none⟩ (.int .i64 (wrap64 ((wrap64 (a1_0 * t671)) + (wrap64 (a1_1 * t672)))))).setCell ⟨gb675, 1, none⟩ (.int .i64 (wrap64 ((wrap64 (a1_2 * t671)) + (wrap64 (a1_3 * t672)))))).heap[gb668]? = some (.cells #[.int .i64 a1_0, .int .i64 a1_1, .int .i64 a1_2, .int .i64 a1_3] 25 (0, 0))) := ⟨by (with_reducible repeat (first | refine blk_drewN ?_ _ | refine blk_drew ?_ | refine blk_alloc ?_ _)); refine blk_far ?_ NB668_675.out _; (with_reducible repeat (first | refine blk_drewN ?_ _ | refine blk_drew ?_ | refine blk_alloc ?_ _)); refine blk_far ?_ NB668_675.out _; (with_reducible repeat (first | refine blk_drewN ?_ _ | refine blk_drew ?_ | refine blk_alloc ?_ _)); exact BK668.out⟩
  have n1_ : Aside0 (((w24.setCell ⟨gb675, 0, none⟩ (.int .i64 (wrap64 ((wrap64 (a1_0 * t671)) + (wrap64 (a1_1 * t672)))))).setCell ⟨gb675, 1, none⟩ (.int .i64 (wrap64 ((wrap64 (a1_2 * t671)) + (wrap64 (a1_3 * t672)))))).heap[gb669]? = some (.cells #[.int .i64 a2_0, .int .i64 a2_1, .int .i64 a2_2] 55 (0, 0))) := ⟨by (with_reducible repeat (first | refine blk_drewN ?_ _ | refine blk_drew ?_ | refine blk_alloc ?_ _)); refine blk_far ?_ NB669_675.out _; (with_reducible repeat (first | refine blk_drewN ?_ _ | refine blk_drew ?_ | refine blk_alloc ?_ _)); refine blk_far ?_ NB669_675.out _; (with_reducible repeat (first | refine blk_drewN ?_ _ | refine blk_drew ?_ | refine blk_alloc ?_ _)); exact BK669.out⟩
  have n2_ : Aside0 (((w24.setCell ⟨gb675, 0, none⟩ (.int .i64 (wrap64 ((wrap64 (a1_0 * t671)) + (wrap64 (a1_1 * t672)))))).setCell ⟨gb675, 1, none⟩ (.int .i64 (wrap64 ((wrap64 (a1_2 * t671)) + (wrap64 (a1_3 * t672)))))).heap[gb670]? = some (.cells #[.int .i64 0, .int .i64 0, .int .i64 0] 55 (0, 0))) := ⟨by (with_reducible repeat (first | refine blk_drewN ?_ _ | refine blk_drew ?_ | refine blk_alloc ?_ _)); refine blk_far ?_ NB670_675.out _; (with_reducible repeat (first | refine blk_drewN ?_ _ | refine blk_drew ?_ | refine blk_alloc ?_ _)); refine blk_far ?_ NB670_675.out _; (with_reducible repeat (first | refine blk_drewN ?_ _ | refine blk_drew ?_ | refine blk_alloc ?_ _)); exact BK670.out⟩
  have n3_ : Aside0 (((w24.setCell ⟨gb675, 0, none⟩ (.int .i64 (wrap64 ((wrap64 (a1_0 * t671)) + (wrap64 (a1_1 * t672)))))).setCell ⟨gb675, 1, none⟩ (.int .i64 (wrap64 ((wrap64 (a1_2 * t671)) + (wrap64 (a1_3 * t672)))))).heap[gb674]? = some (.cells #[.int .i64 (wrap64 (a1_0 * t673)), .int .i64 (wrap64 (a1_2 * t673))] 22 (0, 0))) := ⟨by (with_reducible repeat (first | refine blk_drewN ?_ _ | refine blk_drew ?_ | refine blk_alloc ?_ _)); refine blk_far ?_ NB674_675.out _; (with_reducible repeat (first | refine blk_drewN ?_ _ | refine blk_drew ?_ | refine blk_alloc ?_ _)); refine blk_far ?_ NB674_675.out _; (with_reducible repeat (first | refine blk_drewN ?_ _ | refine blk_drew ?_ | refine blk_alloc ?_ _)); exact BK674.out⟩
  have n4_ : Aside0 (((w24.setCell ⟨gb675, 0, none⟩ (.int .i64 (wrap64 ((wrap64 (a1_0 * t671)) + (wrap64 (a1_1 * t672)))))).setCell ⟨gb675, 1, none⟩ (.int .i64 (wrap64 ((wrap64 (a1_2 * t671)) + (wrap64 (a1_3 * t672)))))).heap[gb675]? = some (.cells #[.int .i64 (wrap64 ((wrap64 (a1_0 * t671)) + (wrap64 (a1_1 * t672)))), .int .i64 (wrap64 ((wrap64 (a1_2 * t671)) + (wrap64 (a1_3 * t672))))] 22 (0, 0))) := ⟨by (with_reducible repeat (first | refine blk_drewN ?_ _ | refine blk_drew ?_ | refine blk_alloc ?_ _)); refine blk_put (cs := #[.int .i64 (wrap64 ((wrap64 (a1_0 * t671)) + (wrap64 (a1_1 * t672)))), .int .i64 0]) ?_ 1 _ rfl; (with_reducible repeat (first | refine blk_drewN ?_ _ | refine blk_drew ?_ | refine blk_alloc ?_ _)); refine blk_put (cs := #[.int .i64 0, .int .i64 0]) ?_ 0 _ rfl; (with_reducible repeat (first | refine blk_drewN ?_ _ | refine blk_drew ?_ | refine blk_alloc ?_ _)); exact BK675.out⟩
  have n5_ : Aside0 (Below w.heap.size w ((w24.setCell ⟨gb675, 0, none⟩ (.int .i64 (wrap64 ((wrap64 (a1_0 * t671)) + (wrap64 (a1_1 * t672)))))).setCell ⟨gb675, 1, none⟩ (.int .i64 (wrap64 ((wrap64 (a1_2 * t671)) + (wrap64 (a1_3 * t672))))))) := ⟨blA⟩
  (try clear BK668)
  (try clear BK669)
  (try clear BK670)
  (try clear BK674)
  (try clear BK675)
  (try clear HB)
  generalize ((w24.setCell ⟨gb675, 0, none⟩ (.int .i64 (wrap64 ((wrap64 (a1_0 * t671)) + (wrap64 (a1_1 * t672)))))).setCell ⟨gb675, 1, none⟩ (.int .i64 (wrap64 ((wrap64 (a1_2 * t671)) + (wrap64 (a1_3 * t672)))))) = w30 at n0_ n1_ n2_ n3_ n4_ n5_ ⊢
  have BK668 := n0_
  have BK669 := n1_
  have BK670 := n2_
  have BK674 := n3_
  have BK675 := n4_
  have HB := n5_
  clear n0_ n1_ n2_ n3_ n4_ n5_
  have n0_ := Aside0.mk (blk_drew BK668.out)
  have n1_ := Aside0.mk (blk_drew BK669.out)
  have n2_ := Aside0.mk (blk_drew BK670.out)
  have n3_ := Aside0.mk (blk_drew BK674.out)
  have n4_ := Aside0.mk (blk_drew BK675.out)
  have n5_ := Aside0.mk (below_drew1 HB.out)
  clear BK668
  clear BK669
  clear BK670
  clear BK674
  clear BK675
  clear HB
  have BK668 := n0_
  have BK669 := n1_
  have BK670 := n2_
  have BK674 := n3_
  have BK675 := n4_
  have HB := n5_
  clear n0_ n1_ n2_ n3_ n4_ n5_
  refine start_ (n := 9) (S := fun w' => w'.cell? ⟨gb675, 0, none⟩ = some (.int .i64 (wrap64 ((wrap64 (a1_0 * t671)) + (wrap64 (a1_1 * t672))))) ∧ w'.cell? ⟨gb675, 1, none⟩ = some (.int .i64 (wrap64 ((wrap64 (a1_2 * t671)) + (wrap64 (a1_3 * t672))))) ∧ w'.cell? ⟨gb674, 0, none⟩ = some (.int .i64 (wrap64 (a1_0 * t673))) ∧ w'.cell? ⟨gb674, 1, none⟩ = some (.int .i64 (wrap64 (a1_2 * t673)))) (ds := []) #[false, false, false, false, false, false, false, false, false] (by kernel_rfl) rfl rfl ⟨(blk_cell BK675.out 0).trans rfl, (blk_cell BK675.out 1).trans rfl, (blk_cell BK674.out 0).trans rfl, (blk_cell BK674.out 1).trans rfl⟩ (fun hHeld => ?_); refine with_tabW impl_moveBall.tab4 impl_moveBall.bits4 (fun HT_ HW_ => ?_)
  generalize w30.drew = w31 at BK668 BK669 BK670 BK674 BK675 HB hHeld ⊢
  refine pure_ (i := 0) (N := some 58) (v := ?_) (a' := ?_) #[true, false, false, false, false, false, false, false, false] rfl rfl (any_of HT_.out (by kernel_rfl)) (fun _ _ _ h => h) (Or.inl ⟨by rfl, ?_⟩) ?_ ?_
  rotate_left
  · intro w'
    go_simp
    with_reducible rfl
  rotate_left
  · simp only [Act.put, List.setIfInBounds_toArray, List.set_cons_zero, List.set_cons_succ, i64_w, i32_w]
    rfl
  refine pure_ (i := 1) (N := some 59) (v := ?_) (a' := ?_) #[true, true, false, false, false, false, false, false, false] rfl rfl (any_of HT_.out (by kernel_rfl)) (fun _ _ _ h => h) (Or.inl ⟨by rfl, ?_⟩) ?_ ?_
  rotate_left
  · intro w'
    go_simp
    with_reducible rfl
  rotate_left
  · simp only [Act.put, List.setIfInBounds_toArray, List.set_cons_zero, List.set_cons_succ, i64_w, i32_w]
    rfl
  refine pure_ (i := 4) (N := some 62) (v := ?_) (a' := ?_) #[true, true, false, false, true, false, false, false, false] rfl rfl (any_of HT_.out (by kernel_rfl)) (fun _ _ _ h => h) (Or.inl ⟨by rfl, ?_⟩) ?_ ?_
  rotate_left
  · intro w'
    go_simp
    with_reducible rfl
  rotate_left
  · simp only [Act.put, List.setIfInBounds_toArray, List.set_cons_zero, List.set_cons_succ, i64_w, i32_w]
    rfl
  refine pure_ (i := 5) (N := some 63) (v := ?_) (a' := ?_) #[true, true, false, false, true, true, false, false, false] rfl rfl (any_of HT_.out (by kernel_rfl)) (fun _ _ _ h => h) (Or.inl ⟨by rfl, ?_⟩) ?_ ?_
  rotate_left
  · intro w'
    go_simp
    with_reducible rfl
  rotate_left
  · simp only [Act.put, List.setIfInBounds_toArray, List.set_cons_zero, List.set_cons_succ, i64_w, i32_w]
    rfl
  refine take_ (i := 2) (N := some 60) (v := ?_) (a' := ?_) #[true, true, true, false, true, true, false, false, false] rfl rfl (take_ofW HT_.out HW_.out (by kernel_rfl)) (fun _ _ _ h => h) (Or.inl ⟨by rfl, ?_⟩) hHeld ?_ ?_
  rotate_left
  · rintro w' ⟨s0, s1, s2, s3⟩
    go_simp
    with_reducible rfl
  rotate_left
  · simp only [Act.put, List.setIfInBounds_toArray, List.set_cons_zero, List.set_cons_succ, i64_w, i32_w]
    rfl
  refine take_ (i := 6) (N := some 64) (v := ?_) (a' := ?_) #[true, true, true, false, true, true, true, false, false] rfl rfl (take_ofW HT_.out HW_.out (by kernel_rfl)) (fun _ _ _ h => h) (Or.inl ⟨by rfl, ?_⟩) hHeld ?_ ?_
  rotate_left
  · rintro w' ⟨s0, s1, s2, s3⟩
    go_simp
    with_reducible rfl
  rotate_left
  · simp only [Act.put, List.setIfInBounds_toArray, List.set_cons_zero, List.set_cons_succ, i64_w, i32_w]
    rfl
  refine one_ (i := 3) (N := some 61) #[true, true, true, true, true, true, true, false, false] rfl rfl (one_of HT_.out (by kernel_rfl)) (by decide) (fun K hK => ?_)
  refine goes_ Try.func90 (by kernel_rfl) rfl #[.int .i64 a0, .int .i64 (wrap64 ((wrap64 (a1_2 * t671)) + (wrap64 (a1_3 * t672))))] (by rfl) rfl rfl (by (try simp only [List.map_toArray, List.map_cons, List.map_nil]); first | done | rfl | (simp only [List.length_drop, List.length_take]; rfl)) ?_
  with_reducible refine (impl_valuation.calls k a0 (wrap64 ((wrap64 (a1_2 * t671)) + (wrap64 (a1_3 * t672)))) t676 _ A7.out).mono ?_
  rintro e w' ⟨rfl, ⟨nd, rfl⟩⟩
  refine ⟨_, rfl, ?_⟩
  refine hK.out _ _ ⟨(blk_cell BK675.out 0).trans rfl, (blk_cell BK675.out 1).trans rfl, (blk_cell BK674.out 0).trans rfl, (blk_cell BK674.out 1).trans rfl⟩ (fun hHeld => ?_)
  clear hK K
  refine norm_ (a' := ?_) ?_ ?_
  rotate_left
  · show Act.put _ (some 61) _ = _
    simp only [Act.put, List.setIfInBounds_toArray, List.set_cons_zero, List.set_cons_succ, i64_w, i32_w]
    rfl
  refine one_ (i := 7) (N := some 65) #[true, true, true, true, true, true, true, true, false] rfl rfl (one_of HT_.out (by kernel_rfl)) (by decide) (fun K hK => ?_)
  refine goes_ Try.func90 (by kernel_rfl) rfl #[.int .i64 a0, .int .i64 (wrap64 (a1_2 * t673))] (by rfl) rfl rfl (by (try simp only [List.map_toArray, List.map_cons, List.map_nil]); first | done | rfl | (simp only [List.length_drop, List.length_take]; rfl)) ?_
  with_reducible refine (impl_valuation.calls k a0 (wrap64 (a1_2 * t673)) t677 _ A8.out).mono ?_
  rintro e w' ⟨rfl, ⟨nd, rfl⟩⟩
  refine ⟨_, rfl, ?_⟩
  refine hK.out _ _ ⟨(blk_cell BK675.out 0).trans rfl, (blk_cell BK675.out 1).trans rfl, (blk_cell BK674.out 0).trans rfl, (blk_cell BK674.out 1).trans rfl⟩ (fun hHeld => ?_)
  clear hK K
  refine norm_ (a' := ?_) ?_ ?_
  rotate_left
  · show Act.put _ (some 65) _ = _
    simp only [Act.put, List.setIfInBounds_toArray, List.set_cons_zero, List.set_cons_succ, i64_w, i32_w]
    rfl
  refine pure_ (i := 8) (N := some 66) (v := ?_) (a' := ?_) #[true, true, true, true, true, true, true, true, true] rfl rfl (any_of HT_.out (by kernel_rfl)) (fun _ _ _ h => h) (Or.inl ⟨by rfl, ?_⟩) ?_ ?_
  rotate_left
  · intro w'
    go_simp
    with_reducible rfl
  rotate_left
  · simp only [Act.put, List.setIfInBounds_toArray, List.set_cons_zero, List.set_cons_succ, i64_w, i32_w]
    rfl
  refine done_ (done_of HT_.out (by kernel_rfl)) ?_
  go_upto_if 66 with (fail)
  go_cut [] (fun wc => ∃ (kq : Nat) (x676000_8 : Int) (x676001_8 : Int), Aside0 (impl_moveBall.j0 kq a0 a1_0 a1_1 a1_2 a1_3 a2_0 a2_1 a2_2 x676000_8 x676001_8 = some (r1, r2, r3, r4)) ∧ Aside0 (kq ≤ k) ∧ Aside0 (wc.heap[gb668]? = some (.cells #[.int .i64 a1_0, .int .i64 a1_1, .int .i64 a1_2, .int .i64 a1_3] 25 (0, 0))) ∧ Aside0 (wc.heap[gb669]? = some (.cells #[.int .i64 a2_0, .int .i64 a2_1, .int .i64 a2_2] 55 (0, 0))) ∧ Aside0 (wc.heap[gb670]? = some (.cells #[.int .i64 0, .int .i64 0, .int .i64 0] 55 (0, 0))) ∧ Aside0 (wc.heap[gb674]? = some (.cells #[.int .i64 (wrap64 (a1_0 * t673)), .int .i64 (wrap64 (a1_2 * t673))] 22 (0, 0))) ∧ Aside0 (wc.heap[gb675]? = some (.cells #[.int .i64 x676000_8, .int .i64 x676001_8] 22 (0, 0))) ∧ Aside0 (Below w.heap.size w wc))
  case first =>
    have H := HC9.out
    clear HC9
    by_cases c32 : t676 > t677
    · rw [if_pos c32] at H
      have c32b0 : decide (t677 < t676) = true := decide_eq_true c32
      clear c32
      (first | rw [c32b0] | (simp only [i64_w, i32_w]; rw [c32b0]) | skip)
      have H' := Aside0.mk H
      clear H
      have hnb33 := NB674_668.out
      have hnc33 := NB668_674.out
      have hnb34 := NB674_669.out
      have hnc34 := NB669_674.out
      have hnb35 := NB674_670.out
      have hnc35 := NB670_674.out
      have hnb36 := NB674_675.out
      have hnc36 := NB675_674.out
      have hcz37_0 : w31.cell? ⟨gb674, 0, none⟩ = some (.int .i64 (wrap64 (a1_0 * t673))) := (blk_cell BK674.out 0).trans rfl
      have hcz37_1 : w31.cell? ⟨gb674, 1, none⟩ = some (.int .i64 (wrap64 (a1_2 * t673))) := (blk_cell BK674.out 1).trans rfl
      have hfz37_0 := blk_frozen BK674.out 0
      have hfz37_1 := blk_frozen BK674.out 1
      have hnb38 := NB675_668.out
      have hnc38 := NB668_675.out
      have hnb39 := NB675_669.out
      have hnc39 := NB669_675.out
      have hnb40 := NB675_670.out
      have hnc40 := NB670_675.out
      have hcz41_0 : w31.cell? ⟨gb675, 0, none⟩ = some (.int .i64 (wrap64 ((wrap64 (a1_0 * t671)) + (wrap64 (a1_1 * t672))))) := (blk_cell BK675.out 0).trans rfl
      have hcz41_1 : w31.cell? ⟨gb675, 1, none⟩ = some (.int .i64 (wrap64 ((wrap64 (a1_2 * t671)) + (wrap64 (a1_3 * t672))))) := (blk_cell BK675.out 1).trans rfl
      have hfz41_0 := blk_frozen BK675.out 0
      have hfz41_1 := blk_frozen BK675.out 1
      go_wp2
      go_meet
      case rel => exact ⟨_, (wrap64 (a1_0 * t673)), (wrap64 (a1_2 * t673)), H', ⟨by first | omega | exact Nat.le_refl _⟩, ⟨by (with_reducible repeat (first | refine blk_drewN ?_ _ | refine blk_drew ?_ | refine blk_alloc ?_ _)); refine blk_far ?_ NB668_675.out _; (with_reducible repeat (first | refine blk_drewN ?_ _ | refine blk_drew ?_ | refine blk_alloc ?_ _)); refine blk_far ?_ NB668_675.out _; (with_reducible repeat (first | refine blk_drewN ?_ _ | refine blk_drew ?_ | refine blk_alloc ?_ _)); exact BK668.out⟩, ⟨by (with_reducible repeat (first | refine blk_drewN ?_ _ | refine blk_drew ?_ | refine blk_alloc ?_ _)); refine blk_far ?_ NB669_675.out _; (with_reducible repeat (first | refine blk_drewN ?_ _ | refine blk_drew ?_ | refine blk_alloc ?_ _)); refine blk_far ?_ NB669_675.out _; (with_reducible repeat (first | refine blk_drewN ?_ _ | refine blk_drew ?_ | refine blk_alloc ?_ _)); exact BK669.out⟩, ⟨by (with_reducible repeat (first | refine blk_drewN ?_ _ | refine blk_drew ?_ | refine blk_alloc ?_ _)); refine blk_far ?_ NB670_675.out _; (with_reducible repeat (first | refine blk_drewN ?_ _ | refine blk_drew ?_ | refine blk_alloc ?_ _)); refine blk_far ?_ NB670_675.out _; (with_reducible repeat (first | refine blk_drewN ?_ _ | refine blk_drew ?_ | refine blk_alloc ?_ _)); exact BK670.out⟩, ⟨by (with_reducible repeat (first | refine blk_drewN ?_ _ | refine blk_drew ?_ | refine blk_alloc ?_ _)); refine blk_far ?_ NB674_675.out _; (with_reducible repeat (first | refine blk_drewN ?_ _ | refine blk_drew ?_ | refine blk_alloc ?_ _)); refine blk_far ?_ NB674_675.out _; (with_reducible repeat (first | refine blk_drewN ?_ _ | refine blk_drew ?_ | refine blk_alloc ?_ _)); exact BK674.out⟩, ⟨by (with_reducible repeat (first | refine blk_drewN ?_ _ | refine blk_drew ?_ | refine blk_alloc ?_ _)); refine blk_put (cs := #[.int .i64 (wrap64 (a1_0 * t673)), .int .i64 (wrap64 ((wrap64 (a1_2 * t671)) + (wrap64 (a1_3 * t672))))]) ?_ 1 _ rfl; (with_reducible repeat (first | refine blk_drewN ?_ _ | refine blk_drew ?_ | refine blk_alloc ?_ _)); refine blk_put (cs := #[.int .i64 (wrap64 ((wrap64 (a1_0 * t671)) + (wrap64 (a1_1 * t672)))), .int .i64 (wrap64 ((wrap64 (a1_2 * t671)) + (wrap64 (a1_3 * t672))))]) ?_ 0 _ rfl; (with_reducible repeat (first | refine blk_drewN ?_ _ | refine blk_drew ?_ | refine blk_alloc ?_ _)); exact BK675.out⟩, ⟨blA⟩⟩
    · rw [if_neg c32] at H
      have c32b0 : decide (t677 < t676) = false := decide_eq_false c32
      clear c32
      (first | rw [c32b0] | (simp only [i64_w, i32_w]; rw [c32b0]) | skip)
      have H' := Aside0.mk H
      clear H
      go_wp2
      go_meet
      case rel => exact ⟨_, (wrap64 ((wrap64 (a1_0 * t671)) + (wrap64 (a1_1 * t672)))), (wrap64 ((wrap64 (a1_2 * t671)) + (wrap64 (a1_3 * t672)))), H', ⟨by first | omega | exact Nat.le_refl _⟩, ⟨bkA BK668⟩, ⟨bkA BK669⟩, ⟨bkA BK670⟩, ⟨bkA BK674⟩, ⟨bkA BK675⟩, ⟨blA⟩⟩
  case rest =>
    clear HC9
    try clear c1
    try clear c2
    try clear p2
    try clear c3
    try clear c4
    try clear p6
    try clear c8
    try clear c9
    try clear c15
    try clear c16
    try clear c19
    try clear c20
    try clear c21
    try clear c25
    try clear c26
    try clear c27
    try clear c28
    try clear c32
    try clear c32b0
    try clear c33
    try clear c34
    try clear c35
    try clear c36
    try clear c38
    try clear c39
    try clear c40
    try clear hcz17_0
    try clear hcz17_1
    try clear hcz17_2
    try clear hcz17_3
    try clear hcz22_0
    try clear hcz22_1
    try clear hcz23_0
    try clear hcz23_1
    try clear hcz23_2
    try clear hcz23_3
    try clear hcz29_0
    try clear hcz29_1
    try clear hcz37_0
    try clear hcz37_1
    try clear hcz41_0
    try clear hcz41_1
    try clear hfz17_0
    try clear hfz17_1
    try clear hfz17_2
    try clear hfz17_3
    try clear hfz22_0
    try clear hfz22_1
    try clear hfz23_0
    try clear hfz23_1
    try clear hfz23_2
    try clear hfz23_3
    try clear hfz29_0
    try clear hfz29_1
    try clear hfz37_0
    try clear hfz37_1
    try clear hfz41_0
    try clear hfz41_1
    obtain ⟨kq, x676000_8, x676001_8, HA, HJ8, BK668, BK669, BK670, BK674, BK675, HB⟩ := hcut
    cases kq with
    | zero => exact absurd HA.out (by simp [impl_moveBall.j0])
    | succ kj8 =>
      have H := HA.out
      clear HA
      simp only [impl_moveBall.j0] at H
      replace H := Option.bind_eq_some_iff.mp H
      obtain ⟨t678, A420, H⟩ := H
      replace H : ((impl_valuation.f kj8 a0 t678).bind fun t679 => ((impl_valuation.f kj8 a0 x676001_8).bind fun t680 => ((impl_ballAt.f kj8 a0 x676000_8 x676001_8 (wrap64 ((wrap64 ((wrap64 (t679 + a2_0)) + 12)) - (wrap64 (2 * t680))))).bind fun bt681 => (some (bt681.1, bt681.2.1, bt681.2.2.1, bt681.2.2.2))))) = some (r1, r2, r3, r4) := H
      have A42 := Aside0.mk A420
      clear A420
      replace H := Option.bind_eq_some_iff.mp H
      obtain ⟨t679, A430, H⟩ := H
      replace H : ((impl_valuation.f kj8 a0 x676001_8).bind fun t680 => ((impl_ballAt.f kj8 a0 x676000_8 x676001_8 (wrap64 ((wrap64 ((wrap64 (t679 + a2_0)) + 12)) - (wrap64 (2 * t680))))).bind fun bt681 => (some (bt681.1, bt681.2.1, bt681.2.2.1, bt681.2.2.2)))) = some (r1, r2, r3, r4) := H
      have A43 := Aside0.mk A430
      clear A430
      replace H := Option.bind_eq_some_iff.mp H
      obtain ⟨t680, A440, H⟩ := H
      replace H : ((impl_ballAt.f kj8 a0 x676000_8 x676001_8 (wrap64 ((wrap64 ((wrap64 (t679 + a2_0)) + 12)) - (wrap64 (2 * t680))))).bind fun bt681 => (some (bt681.1, bt681.2.1, bt681.2.2.1, bt681.2.2.2))) = some (r1, r2, r3, r4) := H
      have A44 := Aside0.mk A440
      clear A440
      replace H := Option.bind_eq_some_iff.mp H
      obtain ⟨⟨t681, t682, t683, t684⟩, A450, H⟩ := H
      replace H : (some (t681, t682, t683, t684)) = some (r1, r2, r3, r4) := H
      have A45 := Aside0.mk A450
      clear A450
      simp only [Option.some.injEq, Prod.mk.injEq] at H
      obtain ⟨rfl, rfl, rfl, rfl⟩ := H
      try go_wp2
      have n0_ := Aside0.mk (blk_drew BK668.out)
      have n1_ := Aside0.mk (blk_drew BK669.out)
      have n2_ := Aside0.mk (blk_drew BK670.out)
      have n3_ := Aside0.mk (blk_drew BK674.out)
      have n4_ := Aside0.mk (blk_drew BK675.out)
      have n5_ := Aside0.mk (below_drew1 HB.out)
      clear BK668
      clear BK669
      clear BK670
      clear BK674
      clear BK675
      clear HB
      have BK668 := n0_
      have BK669 := n1_
      have BK670 := n2_
      have BK674 := n3_
      have BK675 := n4_
      have HB := n5_
      clear n0_ n1_ n2_ n3_ n4_ n5_
      refine start_ (n := 15) (S := fun w' => w'.cell? ⟨gb668, 0, none⟩ = some (.int .i64 a1_0) ∧ w'.cell? ⟨gb668, 1, none⟩ = some (.int .i64 a1_1) ∧ w'.cell? ⟨gb668, 2, none⟩ = some (.int .i64 a1_2) ∧ w'.cell? ⟨gb668, 3, none⟩ = some (.int .i64 a1_3) ∧ w'.cell? ⟨gb669, 0, none⟩ = some (.int .i64 a2_0) ∧ w'.cell? ⟨gb669, 1, none⟩ = some (.int .i64 a2_1) ∧ w'.cell? ⟨gb669, 2, none⟩ = some (.int .i64 a2_2) ∧ w'.cell? ⟨gb675, 0, none⟩ = some (.int .i64 x676000_8) ∧ w'.cell? ⟨gb675, 1, none⟩ = some (.int .i64 x676001_8)) (ds := []) #[false, false, false, false, false, false, false, false, false, false, false, false, false, false, false] (by kernel_rfl) rfl rfl ⟨(blk_cell BK668.out 0).trans rfl, (blk_cell BK668.out 1).trans rfl, (blk_cell BK668.out 2).trans rfl, (blk_cell BK668.out 3).trans rfl, (blk_cell BK669.out 0).trans rfl, (blk_cell BK669.out 1).trans rfl, (blk_cell BK669.out 2).trans rfl, (blk_cell BK675.out 0).trans rfl, (blk_cell BK675.out 1).trans rfl⟩ (fun hHeld => ?_); refine with_tabW impl_moveBall.tab6 impl_moveBall.bits6 (fun HT_ HW_ => ?_)
      generalize wc.drew = w46 at BK668 BK669 BK670 BK674 BK675 HB hHeld ⊢
      refine pure_ (i := 0) (N := some 68) (v := ?_) (a' := ?_) #[true, false, false, false, false, false, false, false, false, false, false, false, false, false, false] rfl rfl (any_of HT_.out (by kernel_rfl)) (fun _ _ _ h => h) (Or.inl ⟨by rfl, ?_⟩) ?_ ?_
      rotate_left
      · intro w'
        go_simp
        with_reducible rfl
      rotate_left
      · simp only [Act.put, List.setIfInBounds_toArray, List.set_cons_zero, List.set_cons_succ, i64_w, i32_w]
        rfl
      refine pure_ (i := 4) (N := some 72) (v := ?_) (a' := ?_) #[true, false, false, false, true, false, false, false, false, false, false, false, false, false, false] rfl rfl (any_of HT_.out (by kernel_rfl)) (fun _ _ _ h => h) (Or.inl ⟨by rfl, ?_⟩) ?_ ?_
      rotate_left
      · intro w'
        go_simp
        with_reducible rfl
      rotate_left
      · simp only [Act.put, List.setIfInBounds_toArray, List.set_cons_zero, List.set_cons_succ, i64_w, i32_w]
        rfl
      refine pure_ (i := 8) (N := some 76) (v := ?_) (a' := ?_) #[true, false, false, false, true, false, false, false, true, false, false, false, false, false, false] rfl rfl (any_of HT_.out (by kernel_rfl)) (fun _ _ _ h => h) (Or.inl ⟨by rfl, ?_⟩) ?_ ?_
      rotate_left
      · intro w'
        go_simp
        with_reducible rfl
      rotate_left
      · simp only [Act.put, List.setIfInBounds_toArray, List.set_cons_zero, List.set_cons_succ, i64_w, i32_w]
        rfl
      refine pure_ (i := 9) (N := some 77) (v := ?_) (a' := ?_) #[true, false, false, false, true, false, false, false, true, true, false, false, false, false, false] rfl rfl (any_of HT_.out (by kernel_rfl)) (fun _ _ _ h => h) (Or.inl ⟨by rfl, ?_⟩) ?_ ?_
      rotate_left
      · intro w'
        go_simp
        with_reducible rfl
      rotate_left
      · simp only [Act.put, List.setIfInBounds_toArray, List.set_cons_zero, List.set_cons_succ, i64_w, i32_w]
        rfl
      refine take_ (i := 1) (N := some 69) (v := ?_) (a' := ?_) #[true, true, false, false, true, false, false, false, true, true, false, false, false, false, false] rfl rfl (take_ofW HT_.out HW_.out (by kernel_rfl)) (fun _ _ _ h => h) (Or.inl ⟨by rfl, ?_⟩) hHeld ?_ ?_
      rotate_left
      · rintro w' ⟨s0, s1, s2, s3, s4, s5, s6, s7, s8⟩
        go_simp
        with_reducible rfl
      rotate_left
      · simp only [Act.put, List.setIfInBounds_toArray, List.set_cons_zero, List.set_cons_succ, i64_w, i32_w]
        rfl
      refine take_ (i := 5) (N := some 73) (v := ?_) (a' := ?_) #[true, true, false, false, true, true, false, false, true, true, false, false, false, false, false] rfl rfl (take_ofW HT_.out HW_.out (by kernel_rfl)) (fun _ _ _ h => h) (Or.inl ⟨by rfl, ?_⟩) hHeld ?_ ?_
      rotate_left
      · rintro w' ⟨s0, s1, s2, s3, s4, s5, s6, s7, s8⟩
        go_simp
        with_reducible rfl
      rotate_left
      · simp only [Act.put, List.setIfInBounds_toArray, List.set_cons_zero, List.set_cons_succ, i64_w, i32_w]
        rfl
      refine take_ (i := 10) (N := some 78) (v := ?_) (a' := ?_) #[true, true, false, false, true, true, false, false, true, true, true, false, false, false, false] rfl rfl (take_ofW HT_.out HW_.out (by kernel_rfl)) (fun _ _ _ h => h) (Or.inl ⟨by rfl, ?_⟩) hHeld ?_ ?_
      rotate_left
      · rintro w' ⟨s0, s1, s2, s3, s4, s5, s6, s7, s8⟩
        go_simp
        with_reducible rfl
      rotate_left
      · simp only [Act.put, List.setIfInBounds_toArray, List.set_cons_zero, List.set_cons_succ, i64_w, i32_w]
        rfl
      refine one_ (i := 2) (N := some 70) #[true, true, true, false, true, true, false, false, true, true, true, false, false, false, false] rfl rfl (one_of HT_.out (by kernel_rfl)) (by decide) (fun K hK => ?_)
      refine goes_ Try.func55 (by kernel_rfl) rfl #[.agg #[.int .i64 a1_0, .int .i64 a1_1, .int .i64 a1_2, .int .i64 a1_3]] (by rfl) rfl rfl (by (try simp only [List.map_toArray, List.map_cons, List.map_nil]); first | done | rfl | (simp only [List.length_drop, List.length_take]; rfl)) ?_
      with_reducible refine (impl_determinant.calls a1_0 a1_1 a1_2 a1_3 t678 _ A42.out).mono ?_
      rintro e w47 ⟨rfl, hb⟩
      refine ⟨_, rfl, ?_⟩
      have n0_ := Aside0.mk (blk_below (bkA BK668) hb)
      have n1_ := Aside0.mk (blk_below (bkA BK669) hb)
      have n2_ := Aside0.mk (blk_below (bkA BK670) hb)
      have n3_ := Aside0.mk (blk_below (bkA BK674) hb)
      have n4_ := Aside0.mk (blk_below (bkA BK675) hb)
      have n5_ := Aside0.mk (below_step blA hb)
      clear BK668
      clear BK669
      clear BK670
      clear BK674
      clear BK675
      clear HB
      have BK668 := n0_
      have BK669 := n1_
      have BK670 := n2_
      have BK674 := n3_
      have BK675 := n4_
      have HB := n5_
      clear n0_ n1_ n2_ n3_ n4_ n5_
      (try clear hb)
      (try clear hb2)
      (try clear hk)
      (try clear hi)
      refine hK.out _ _ ⟨(blk_cell BK668.out 0).trans rfl, (blk_cell BK668.out 1).trans rfl, (blk_cell BK668.out 2).trans rfl, (blk_cell BK668.out 3).trans rfl, (blk_cell BK669.out 0).trans rfl, (blk_cell BK669.out 1).trans rfl, (blk_cell BK669.out 2).trans rfl, (blk_cell BK675.out 0).trans rfl, (blk_cell BK675.out 1).trans rfl⟩ (fun hHeld => ?_)
      clear hK K
      refine norm_ (a' := ?_) ?_ ?_
      rotate_left
      · show Act.put _ (some 70) _ = _
        simp only [Act.put, List.setIfInBounds_toArray, List.set_cons_zero, List.set_cons_succ, i64_w, i32_w]
        rfl
      refine one_ (i := 3) (N := some 71) #[true, true, true, true, true, true, false, false, true, true, true, false, false, false, false] rfl rfl (one_of HT_.out (by kernel_rfl)) (by decide) (fun K hK => ?_)
      refine goes_ Try.func90 (by kernel_rfl) rfl #[.int .i64 a0, .int .i64 t678] (by rfl) rfl rfl (by (try simp only [List.map_toArray, List.map_cons, List.map_nil]); first | done | rfl | (simp only [List.length_drop, List.length_take]; rfl)) ?_
      with_reducible refine (impl_valuation.calls kj8 a0 t678 t679 _ A43.out).mono ?_
      rintro e w' ⟨rfl, ⟨nd, rfl⟩⟩
      refine ⟨_, rfl, ?_⟩
      refine hK.out _ _ ⟨(blk_cell BK668.out 0).trans rfl, (blk_cell BK668.out 1).trans rfl, (blk_cell BK668.out 2).trans rfl, (blk_cell BK668.out 3).trans rfl, (blk_cell BK669.out 0).trans rfl, (blk_cell BK669.out 1).trans rfl, (blk_cell BK669.out 2).trans rfl, (blk_cell BK675.out 0).trans rfl, (blk_cell BK675.out 1).trans rfl⟩ (fun hHeld => ?_)
      clear hK K
      refine norm_ (a' := ?_) ?_ ?_
      rotate_left
      · show Act.put _ (some 71) _ = _
        simp only [Act.put, List.setIfInBounds_toArray, List.set_cons_zero, List.set_cons_succ, i64_w, i32_w]
        rfl
      refine pure_ (i := 6) (N := some 74) (v := ?_) (a' := ?_) #[true, true, true, true, true, true, true, false, true, true, true, false, false, false, false] rfl rfl (any_of HT_.out (by kernel_rfl)) (fun _ _ _ h => h) (Or.inl ⟨by rfl, ?_⟩) ?_ ?_
      rotate_left
      · intro w'
        go_simp
        with_reducible rfl
      rotate_left
      · simp only [Act.put, List.setIfInBounds_toArray, List.set_cons_zero, List.set_cons_succ, i64_w, i32_w]
        rfl
      refine pure_ (i := 7) (N := some 75) (v := ?_) (a' := ?_) #[true, true, true, true, true, true, true, true, true, true, true, false, false, false, false] rfl rfl (any_of HT_.out (by kernel_rfl)) (fun _ _ _ h => h) (Or.inl ⟨by rfl, ?_⟩) ?_ ?_
      rotate_left
      · intro w'
        go_simp
        with_reducible rfl
      rotate_left
      · simp only [Act.put, List.setIfInBounds_toArray, List.set_cons_zero, List.set_cons_succ, i64_w, i32_w]
        rfl
      refine one_ (i := 11) (N := some 79) #[true, true, true, true, true, true, true, true, true, true, true, true, false, false, false] rfl rfl (one_of HT_.out (by kernel_rfl)) (by decide) (fun K hK => ?_)
      refine goes_ Try.func90 (by kernel_rfl) rfl #[.int .i64 a0, .int .i64 x676001_8] (by rfl) rfl rfl (by (try simp only [List.map_toArray, List.map_cons, List.map_nil]); first | done | rfl | (simp only [List.length_drop, List.length_take]; rfl)) ?_
      with_reducible refine (impl_valuation.calls kj8 a0 x676001_8 t680 _ A44.out).mono ?_
      rintro e w' ⟨rfl, ⟨nd, rfl⟩⟩
      refine ⟨_, rfl, ?_⟩
      refine hK.out _ _ ⟨(blk_cell BK668.out 0).trans rfl, (blk_cell BK668.out 1).trans rfl, (blk_cell BK668.out 2).trans rfl, (blk_cell BK668.out 3).trans rfl, (blk_cell BK669.out 0).trans rfl, (blk_cell BK669.out 1).trans rfl, (blk_cell BK669.out 2).trans rfl, (blk_cell BK675.out 0).trans rfl, (blk_cell BK675.out 1).trans rfl⟩ (fun hHeld => ?_)
      clear hK K
      refine norm_ (a' := ?_) ?_ ?_
      rotate_left
      · show Act.put _ (some 79) _ = _
        simp only [Act.put, List.setIfInBounds_toArray, List.set_cons_zero, List.set_cons_succ, i64_w, i32_w]
        rfl
      refine pure_ (i := 12) (N := some 80) (v := ?_) (a' := ?_) #[true, true, true, true, true, true, true, true, true, true, true, true, true, false, false] rfl rfl (any_of HT_.out (by kernel_rfl)) (fun _ _ _ h => h) (Or.inl ⟨by rfl, ?_⟩) ?_ ?_
      rotate_left
      · intro w'
        go_simp
        with_reducible rfl
      rotate_left
      · simp only [Act.put, List.setIfInBounds_toArray, List.set_cons_zero, List.set_cons_succ, i64_w, i32_w]
        rfl
      refine pure_ (i := 13) (N := some 81) (v := ?_) (a' := ?_) #[true, true, true, true, true, true, true, true, true, true, true, true, true, true, false] rfl rfl (any_of HT_.out (by kernel_rfl)) (fun _ _ _ h => h) (Or.inl ⟨by rfl, ?_⟩) ?_ ?_
      rotate_left
      · intro w'
        go_simp
        with_reducible rfl
      rotate_left
      · simp only [Act.put, List.setIfInBounds_toArray, List.set_cons_zero, List.set_cons_succ, i64_w, i32_w]
        rfl
      refine pure_ (i := 14) (N := some 13) (v := ?_) (a' := ?_) #[true, true, true, true, true, true, true, true, true, true, true, true, true, true, true] rfl rfl (any_of HT_.out (by kernel_rfl)) (fun _ _ _ h => h) (Or.inl ⟨by rfl, ?_⟩) ?_ ?_
      rotate_left
      · intro w'
        go_simp
        with_reducible rfl
      rotate_left
      · simp only [Act.put, List.setIfInBounds_toArray, List.set_cons_zero, List.set_cons_succ, i64_w, i32_w]
        rfl
      refine done_ (done_of HT_.out (by kernel_rfl)) ?_
      have hnb48 := NB675_668.out
      have hnc48 := NB668_675.out
      have hnb49 := NB675_669.out
      have hnc49 := NB669_675.out
      have hnb50 := NB675_670.out
      have hnc50 := NB670_675.out
      have hnb51 := NB675_674.out
      have hnc51 := NB674_675.out
      have hcz52_0 : w47.cell? ⟨gb675, 0, none⟩ = some (.int .i64 x676000_8) := (blk_cell BK675.out 0).trans rfl
      have hcz52_1 : w47.cell? ⟨gb675, 1, none⟩ = some (.int .i64 x676001_8) := (blk_cell BK675.out 1).trans rfl
      have hfz52_0 := blk_frozen BK675.out 0
      have hfz52_1 := blk_frozen BK675.out 1
      try go_wp2_with (first | ((with_reducible refine gate_callee (f := 100) rfl ?_); refine goesL_ (some 88) rfl rfl Try.func100 (by kernel_rfl) rfl #[.int .i64 a0, .int .i64 x676000_8, .int .i64 x676001_8, .int .i64 (wrap64 ((wrap64 ((wrap64 (t679 + a2_0)) + 12)) - (wrap64 (2 * t680))))] rfl (by (try simp only [List.map_toArray, List.map_cons, List.map_nil]); first | done | rfl | (simp only [List.length_drop, List.length_take]; rfl)) ?_; (with_reducible refine (impl_ballAt.calls kj8 a0 x676000_8 x676001_8 (wrap64 ((wrap64 ((wrap64 (t679 + a2_0)) + 12)) - (wrap64 (2 * t680)))) t681 t682 t683 t684 _ A45.out).mono ?_); rintro e w53 ⟨rfl, hb⟩; refine ⟨_, rfl, ?_⟩; have n0_ := Aside0.mk (blk_below (bkA BK668) hb); have n1_ := Aside0.mk (blk_below (bkA BK669) hb); have n2_ := Aside0.mk (blk_below (bkA BK670) hb); have n3_ := Aside0.mk (blk_below (bkA BK674) hb); have n4_ := Aside0.mk (blk_below (bkA BK675) hb); have n5_ := Aside0.mk (below_step blA hb); clear BK668; clear BK669; clear BK670; clear BK674; clear BK675; clear HB; have BK668 := n0_; have BK669 := n1_; have BK670 := n2_; have BK674 := n3_; have BK675 := n4_; have HB := n5_; clear n0_ n1_ n2_ n3_ n4_ n5_; (try clear hb); (try clear hb2); (try clear hk); (try clear hi); have hnb54 := NB670_668.out; have hnc54 := NB668_670.out; have hnb55 := NB670_669.out; have hnc55 := NB669_670.out; have hnb56 := NB670_674.out; have hnc56 := NB674_670.out; have hcz57_0 : w53.cell? ⟨gb670, 0, none⟩ = some (.int .i64 0) := (blk_cell BK670.out 0).trans rfl; have hcz57_1 : w53.cell? ⟨gb670, 1, none⟩ = some (.int .i64 0) := (blk_cell BK670.out 1).trans rfl; have hcz57_2 : w53.cell? ⟨gb670, 2, none⟩ = some (.int .i64 0) := (blk_cell BK670.out 2).trans rfl; have hfz57_0 := blk_frozen BK670.out 0; have hfz57_1 := blk_frozen BK670.out 1; have hfz57_2 := blk_frozen BK670.out 2))
      refine bodyPost_ret (results_ct rfl _ _ gb670 55 #[.int .i64 t681, .int .i64 t682, .int .i64 t683] (0, 0) _ rfl (by (with_reducible repeat (first | refine blk_drewN ?_ _ | refine blk_drew ?_ | refine blk_alloc ?_ _)); refine blk_put (cs := #[.int .i64 t681, .int .i64 t682, .int .i64 0]) ?_ 2 _ rfl; (with_reducible repeat (first | refine blk_drewN ?_ _ | refine blk_drew ?_ | refine blk_alloc ?_ _)); refine blk_put (cs := #[.int .i64 t681, .int .i64 0, .int .i64 0]) ?_ 1 _ rfl; (with_reducible repeat (first | refine blk_drewN ?_ _ | refine blk_drew ?_ | refine blk_alloc ?_ _)); refine blk_put (cs := #[.int .i64 0, .int .i64 0, .int .i64 0]) ?_ 0 _ rfl; (with_reducible repeat (first | refine blk_drewN ?_ _ | refine blk_drew ?_ | refine blk_alloc ?_ _)); exact BK670.out) Try.underlying55 rfl (by kernel_rfl)) rfl ?_
      exact ⟨by first | rfl | (simp [errW_none, errW_some] <;> rfl) | (simp [*, errW_none, errW_some] <;> rfl), blA⟩
end Go.Proofs.Ytmhajnfdbjnegaa.PAll
