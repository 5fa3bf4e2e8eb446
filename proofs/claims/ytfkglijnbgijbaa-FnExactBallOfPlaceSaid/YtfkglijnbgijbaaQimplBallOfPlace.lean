-- turned for this claim out of the kit's print: the same functions, packed anew
import Derived.Test.YtfkglijnbgijbaaQx
import Derived.Test.YtfkglijnbgijbaaQimplIsBall
import Derived.Test.YtfkglijnbgijbaaQimplballOfPlace
import Derived.Test.YtfkglijnbgijbaaQimpldepthOf
import Derived.Test.YtfkglijnbgijbaaQimplfitted
namespace Go.Proofs.Ytfkglijnbgijbaa.PAll
open Go.RowKit Go.Proofs.YtfkglijnbgijbaaW.PrintWords Go.Proofs.YtfkglijnbgijbaaW.PrintLast Go.Proofs.YtfkglijnbgijbaaW.PrintMore
attribute [local go_sem] Go.Proofs.Ytfkglijnbgijbaa.Aux.setCell_drewN Go.Proofs.Ytfkglijnbgijbaa.Aux.isSome_setCell Go.Proofs.Ytfkglijnbgijbaa.Aux.max_eight max2_int min2_int max_two min_two max_three min_three max_four min_four   -- for this text's walks alone
set_option linter.unusedVariables false
set_option linter.unusedSimpArgs false
/-! ### impl_BallOfPlace: function 27 -/
def impl_BallOfPlace.j0 : Nat → Int → Int → Bool → Int → Int → Int → Option (Int × Int × Int × Int)
  | 0, _, _, _, _, _, _ => none
  | k + 1, x0, x2, x17, x654000, x654001, x654002 => if x17 = true then (some (0, 0, 0, 2)) else ((impl_ballOfPlace.f k x0 x654000 x654001 x654002 x2).bind fun bt657 => ((impl_fitted.f bt657.1 bt657.2.1 bt657.2.2.1 bt657.2.2.2.2.2.2).bind fun bt666 => (some (bt666.1, bt666.2.1, bt666.2.2.1, bt666.2.2.2))))
def impl_BallOfPlace.f (k : Nat) (a0 : Int) (a1_0 : Int) (a1_1 : Int) (a1_2 : Int) (a2 : Int) : Option (Int × Int × Int × Int) := (impl_IsBall.f k a0 a1_0 a1_1 a1_2).bind fun t655 => (if t655 = true then (if a2 < 0 then (impl_BallOfPlace.j0 k a0 a2 true a1_0 a1_1 a1_2) else (if a2 > 500 then (impl_BallOfPlace.j0 k a0 a2 true a1_0 a1_1 a1_2) else ((impl_depthOf.f k a0 a2).bind fun t656 => (impl_BallOfPlace.j0 k a0 a2 (decide (t656 > 4)) a1_0 a1_1 a1_2)))) else (some (0, 0, 0, 1)))
theorem impl_BallOfPlace.mono_l : ∀ k, (∀ y0 y1 y2 y3 y4 y5, LeO (impl_BallOfPlace.j0 k y0 y1 y2 y3 y4 y5) (impl_BallOfPlace.j0 (k + 1) y0 y1 y2 y3 y4 y5))
  | 0 => fun _ _ _ _ _ _ r h => by simp [impl_BallOfPlace.j0] at h
  | k + 1 => by
    have ih0 := impl_BallOfPlace.mono_l k
    · intro y0 y1 y2 y3 y4 y5
      unfold impl_BallOfPlace.j0
      repeat' first
      | (with_reducible exact ih0 _ _ _ _ _ _)
      | (with_reducible exact impl_IsBall.mono _ _ _ _ _)
      | (with_reducible exact impl_ballOfPlace.mono _ _ _ _ _ _)
      | (with_reducible exact impl_depthOf.mono _ _ _)
      | (with_reducible exact LeO.refl _)
      | (with_reducible exact LeO.none _)
      | (with_reducible refine LeO.ite ?_ ?_)
      | (with_reducible refine LeO.bind ?_ (fun _ => ?_))
      | exact ih0 _ _ _ _ _ _
      | exact impl_IsBall.mono _ _ _ _ _
      | exact impl_ballOfPlace.mono _ _ _ _ _ _
      | exact impl_depthOf.mono _ _ _
      | exact LeO.none _
      | refine LeO.ite ?_ ?_
      | refine LeO.bind ?_ (fun _ => ?_)
theorem impl_BallOfPlace.mono : ∀ a0 a1 a2 a3 a4 k, LeO (impl_BallOfPlace.f k a0 a1 a2 a3 a4) (impl_BallOfPlace.f (k + 1) a0 a1 a2 a3 a4) := by
  intro a0 a1 a2 a3 a4 k
  have ih0 := impl_BallOfPlace.mono_l k
  unfold impl_BallOfPlace.f
  repeat' first
      | (with_reducible exact ih0 _ _ _ _ _ _)
      | (with_reducible exact impl_IsBall.mono _ _ _ _ _)
      | (with_reducible exact impl_ballOfPlace.mono _ _ _ _ _ _)
      | (with_reducible exact impl_depthOf.mono _ _ _)
      | (with_reducible exact LeO.refl _)
      | (with_reducible exact LeO.none _)
      | (with_reducible refine LeO.ite ?_ ?_)
      | (with_reducible refine LeO.bind ?_ (fun _ => ?_))
      | exact ih0 _ _ _ _ _ _
      | exact impl_IsBall.mono _ _ _ _ _
      | exact impl_ballOfPlace.mono _ _ _ _ _ _
      | exact impl_depthOf.mono _ _ _
      | exact LeO.none _
      | refine LeO.ite ?_ ?_
      | refine LeO.bind ?_ (fun _ => ?_)
set_option maxHeartbeats 8000000 in
set_option maxRecDepth 100000 in
theorem impl_BallOfPlace.calls (k : Nat) (a0 : Int) (a1_0 : Int) (a1_1 : Int) (a1_2 : Int) (a2 : Int) (r1 : Int) (r2 : Int) (r3 : Int) (r4 : Int) (w : World) (h : impl_BallOfPlace.f k a0 a1_0 a1_1 a1_2 a2 = some (r1, r2, r3, r4)) :
    Calls Try.prog 27 #[.int .i64 a0, .agg #[.int .i64 a1_0, .int .i64 a1_1, .int .i64 a1_2], .int .i64 a2] w fun e w' => e = .returned (.tuple #[.agg #[.int .i64 r1, .int .i64 r2, .int .i64 r3], .int .i64 r4]) ∧ Below w.heap.size w w' := by
  have hu34 := Try.underlying34
  have HB := Aside0.mk (Below.refl w.heap.size w)
  have H : ((impl_IsBall.f k a0 a1_0 a1_1 a1_2).bind fun t655 => (if t655 = true then (if a2 < 0 then (impl_BallOfPlace.j0 k a0 a2 true a1_0 a1_1 a1_2) else (if a2 > 500 then (impl_BallOfPlace.j0 k a0 a2 true a1_0 a1_1 a1_2) else ((impl_depthOf.f k a0 a2).bind fun t656 => (impl_BallOfPlace.j0 k a0 a2 (decide (t656 > 4)) a1_0 a1_1 a1_2)))) else (some (0, 0, 0, 1)))) = some (r1, r2, r3, r4) := h
  clear h
  replace H := Option.bind_eq_some_iff.mp H
  obtain ⟨t655, A40, H⟩ := H
  replace H : (if t655 = true then (if a2 < 0 then (impl_BallOfPlace.j0 k a0 a2 true a1_0 a1_1 a1_2) else (if a2 > 500 then (impl_BallOfPlace.j0 k a0 a2 true a1_0 a1_1 a1_2) else ((impl_depthOf.f k a0 a2).bind fun t656 => (impl_BallOfPlace.j0 k a0 a2 (decide (t656 > 4)) a1_0 a1_1 a1_2)))) else (some (0, 0, 0, 1))) = some (r1, r2, r3, r4) := H
  have A4 := Aside0.mk A40
  clear A40
  by_cases c5 : t655 = true
  · subst c5
    have H1 : (if a2 < 0 then (impl_BallOfPlace.j0 k a0 a2 true a1_0 a1_1 a1_2) else (if a2 > 500 then (impl_BallOfPlace.j0 k a0 a2 true a1_0 a1_1 a1_2) else ((impl_depthOf.f k a0 a2).bind fun t656 => (impl_BallOfPlace.j0 k a0 a2 (decide (t656 > 4)) a1_0 a1_1 a1_2)))) = some (r1, r2, r3, r4) := by rw [if_pos rfl] at H; exact H
    clear H
    have H := H1
    clear H1
    have HC6 := Aside0.mk H
    clear H
    go_enter Try.func27, Try.ntmps27
    go_upto_region 3 with (first | ((with_reducible refine gate_dst (N := 4) rfl ?_); refine box_event ?hg (N := 4) ?hd (cs := #[.int .i64 a1_0, .int .i64 a1_1, .int .i64 a1_2]) (t := 34) ?hr ?_; (case hd => rfl); (case hg => rfl); (case hr => first | (go_simp; done) | (go_simp; rfl)); intro gb653 hg w7 hbox hb; have n0_ := Aside0.mk (below_step blA hb); have n1_ := Aside0.mk (hbox); have n2_ := Aside0.mk (szA hg blA); have n3_ := Aside0.mk (szA hg blA); clear HB; have HB := n0_; have BK653 := n1_; have GW653 := n2_; have GE653 := n3_; clear n0_ n1_ n2_ n3_; clear hb hbox hg) | ((with_reducible refine gate_dst (N := 6) rfl ?_); refine box_event ?hg (N := 6) ?hd (cs := #[.int .i64 0, .int .i64 0, .int .i64 0]) (t := 34) ?hr ?_; (case hd => rfl); (case hg => rfl); (case hr => first | (go_simp; done) | (go_simp; rfl)); intro gb654 hg w8 hbox hb; have n0_ := Aside0.mk (blk_below (bkA BK653) hb); have n1_ := Aside0.mk (below_step blA hb); have n2_ := Aside0.mk (hbox); have n3_ := Aside0.mk (szA hg blA); have n4_ := Aside0.mk (szA hg blA); have n5_ := Aside0.mk (neA hg (bkA BK653)); have n6_ := Aside0.mk (neB hg (bkA BK653)); clear BK653; clear HB; have BK653 := n0_; have HB := n1_; have BK654 := n2_; have GW654 := n3_; have GE654 := n4_; have NB653_654 := n5_; have NB654_653 := n6_; clear n0_ n1_ n2_ n3_ n4_ n5_ n6_; clear hb hbox hg; have hnb9 := NB653_654.out; have hnc9 := NB654_653.out; have hcz10_0 : w8.cell? ⟨gb653, 0, none⟩ = some (.int .i64 a1_0) := (blk_cell BK653.out 0).trans rfl; have hcz10_1 : w8.cell? ⟨gb653, 1, none⟩ = some (.int .i64 a1_1) := (blk_cell BK653.out 1).trans rfl; have hcz10_2 : w8.cell? ⟨gb653, 2, none⟩ = some (.int .i64 a1_2) := (blk_cell BK653.out 2).trans rfl; have hfz10_0 := blk_frozen BK653.out 0; have hfz10_1 := blk_frozen BK653.out 1; have hfz10_2 := blk_frozen BK653.out 2) | ((with_reducible refine gate_callee (f := 77) rfl ?_); refine goesL_ (some 14) rfl rfl Try.func77 (by kernel_rfl) rfl #[.int .i64 a0, .agg #[.int .i64 a1_0, .int .i64 a1_1, .int .i64 a1_2]] rfl (by (try simp only [List.map_toArray, List.map_cons, List.map_nil]); first | done | rfl | (simp only [List.length_drop, List.length_take]; rfl)) ?_; (with_reducible refine (impl_IsBall.calls k a0 a1_0 a1_1 a1_2 true _ A4.out).mono ?_); rintro e w11 ⟨rfl, hb⟩; refine ⟨_, rfl, ?_⟩; have n0_ := Aside0.mk (blk_below (bkA BK653) hb); have n1_ := Aside0.mk (blk_below (bkA BK654) hb); have n2_ := Aside0.mk (below_step blA hb); clear BK653; clear BK654; clear HB; have BK653 := n0_; have BK654 := n1_; have HB := n2_; clear n0_ n1_ n2_; (try clear hb); (try clear hb2); (try clear hk); (try clear hi)))
    (try simp only [Act.put, List.setIfInBounds_toArray, List.set_cons_zero, List.set_cons_succ])
    go_cut [17] (fun v17 wc => ∃ (kq : Nat) (x17_5 : Bool), v17 = .bool x17_5 ∧ Aside0 (impl_BallOfPlace.j0 kq a0 a2 x17_5 a1_0 a1_1 a1_2 = some (r1, r2, r3, r4)) ∧ Aside0 (kq ≤ k) ∧ Aside0 (wc.heap[gb653]? = some (.cells #[.int .i64 a1_0, .int .i64 a1_1, .int .i64 a1_2] 34 (0, 0))) ∧ Aside0 (wc.heap[gb654]? = some (.cells #[.int .i64 0, .int .i64 0, .int .i64 0] 34 (0, 0))) ∧ Aside0 (Below w.heap.size w wc))
    case first =>
      have H := HC6.out
      clear HC6
      by_cases c12 : a2 < 0
      · rw [if_pos c12] at H
        have c12b0 : decide (a2 < 0) = true := decide_eq_true c12
        clear c12
        (first | rw [c12b0] | (simp only [i64_w, i32_w]; rw [c12b0]) | skip)
        have H' := Aside0.mk H
        clear H
        go_wp2
        go_meet
        case rel => exact ⟨_, (true), (by first | rfl | (simp; done) | (simp [*]; done)), H', ⟨by first | omega | exact Nat.le_refl _⟩, ⟨bkA BK653⟩, ⟨bkA BK654⟩, ⟨blA⟩⟩
      · rw [if_neg c12] at H
        have c12b0 : decide (a2 < 0) = false := decide_eq_false c12
        clear c12
        (first | rw [c12b0] | (simp only [i64_w, i32_w]; rw [c12b0]) | skip)
        by_cases c13 : a2 > 500
        · rw [if_pos c13] at H
          have c13b0 : decide (500 < a2) = true := decide_eq_true c13
          clear c13
          have H' := Aside0.mk H
          clear H
          go_wp2
          go_meet
          case rel => exact ⟨_, (true), (by first | rfl | (simp; done) | (simp [*]; done)), H', ⟨by first | omega | exact Nat.le_refl _⟩, ⟨bkA BK653⟩, ⟨bkA BK654⟩, ⟨blA⟩⟩
        · rw [if_neg c13] at H
          have c13b0 : decide (500 < a2) = false := decide_eq_false c13
          clear c13
          replace H := Option.bind_eq_some_iff.mp H
          obtain ⟨t656, A140, H⟩ := H
          replace H : (impl_BallOfPlace.j0 k a0 a2 (decide (t656 > 4)) a1_0 a1_1 a1_2) = some (r1, r2, r3, r4) := H
          have A14 := Aside0.mk A140
          clear A140
          have H' := Aside0.mk H
          clear H
          go_wp2_with (first | (go_at_call 78; (with_reducible refine (impl_depthOf.calls k a0 a2 t656 _ A14.out).mono ?_); rintro e w' ⟨rfl, ⟨nd, rfl⟩⟩))
          go_meet
          case rel => exact ⟨_, (decide (t656 > 4)), (by first | rfl | (simp; done) | (simp [*]; done)), H', ⟨by first | omega | exact Nat.le_refl _⟩, ⟨bkA BK653⟩, ⟨bkA BK654⟩, ⟨blA⟩⟩
    case rest =>
      clear HC6
      try clear c1
      try clear c2
      try clear p2
      try clear c5
      try clear c7
      try clear c9
      try clear c12
      try clear c12b0
      try clear c13
      try clear c13b0
      try clear hcz10_0
      try clear hcz10_1
      try clear hcz10_2
      try clear hfz10_0
      try clear hfz10_1
      try clear hfz10_2
      obtain ⟨kq, x17_5, rfl, HA, HJ5, BK653, BK654, HB⟩ := hcut
      cases kq with
      | zero => exact absurd HA.out (by simp [impl_BallOfPlace.j0])
      | succ kj5 =>
        have H := HA.out
        clear HA
        simp only [impl_BallOfPlace.j0] at H
        by_cases c15 : x17_5 = true
        · subst c15
          have H1 : (some (0, 0, 0, 2)) = some (r1, r2, r3, r4) := by rw [if_pos rfl] at H; exact H
          clear H
          have H := H1
          clear H1
          simp only [Option.some.injEq, Prod.mk.injEq] at H
          obtain ⟨rfl, rfl, rfl, rfl⟩ := H
          have hnb16 := NB654_653.out
          have hnc16 := NB653_654.out
          have hcz17_0 : wc.cell? ⟨gb654, 0, none⟩ = some (.int .i64 0) := (blk_cell BK654.out 0).trans rfl
          have hcz17_1 : wc.cell? ⟨gb654, 1, none⟩ = some (.int .i64 0) := (blk_cell BK654.out 1).trans rfl
          have hcz17_2 : wc.cell? ⟨gb654, 2, none⟩ = some (.int .i64 0) := (blk_cell BK654.out 2).trans rfl
          have hfz17_0 := blk_frozen BK654.out 0
          have hfz17_1 := blk_frozen BK654.out 1
          have hfz17_2 := blk_frozen BK654.out 2
          go_wp2
          refine bodyPost_ret (results_ct rfl _ _ gb654 34 #[.int .i64 0, .int .i64 0, .int .i64 0] (0, 0) _ rfl (by (with_reducible repeat (first | refine blk_drewN ?_ _ | refine blk_drew ?_ | refine blk_alloc ?_ _)); refine blk_put (cs := #[.int .i64 0, .int .i64 0, .int .i64 0]) ?_ 2 _ rfl; (with_reducible repeat (first | refine blk_drewN ?_ _ | refine blk_drew ?_ | refine blk_alloc ?_ _)); refine blk_put (cs := #[.int .i64 0, .int .i64 0, .int .i64 0]) ?_ 1 _ rfl; (with_reducible repeat (first | refine blk_drewN ?_ _ | refine blk_drew ?_ | refine blk_alloc ?_ _)); refine blk_put (cs := #[.int .i64 0, .int .i64 0, .int .i64 0]) ?_ 0 _ rfl; (with_reducible repeat (first | refine blk_drewN ?_ _ | refine blk_drew ?_ | refine blk_alloc ?_ _)); exact BK654.out) Try.underlying34 rfl (by kernel_rfl)) rfl ?_
          exact ⟨by first | rfl | (simp [errW_none, errW_some] <;> rfl) | (simp [*, errW_none, errW_some] <;> rfl), blA⟩
        · replace c15 := Bool.eq_false_iff.mpr c15
          subst c15
          have H1 : ((impl_ballOfPlace.f kj5 a0 a1_0 a1_1 a1_2 a2).bind fun bt657 => ((impl_fitted.f bt657.1 bt657.2.1 bt657.2.2.1 bt657.2.2.2.2.2.2).bind fun bt666 => (some (bt666.1, bt666.2.1, bt666.2.2.1, bt666.2.2.2)))) = some (r1, r2, r3, r4) := by rw [if_neg (show ¬ (false = true) by decide)] at H; exact H
          clear H
          have H := H1
          clear H1
          replace H := Option.bind_eq_some_iff.mp H
          obtain ⟨⟨t657, t658, t659, t660, t661, t662, t663⟩, A180, H⟩ := H
          replace H : ((impl_fitted.f t657 t658 t659 t663).bind fun bt666 => (some (bt666.1, bt666.2.1, bt666.2.2.1, bt666.2.2.2))) = some (r1, r2, r3, r4) := H
          have A18 := Aside0.mk A180
          clear A180
          replace H := Option.bind_eq_some_iff.mp H
          obtain ⟨⟨t666, t667, t668, t669⟩, A190, H⟩ := H
          replace H : (some (t666, t667, t668, t669)) = some (r1, r2, r3, r4) := H
          have A19 := Aside0.mk A190
          clear A190
          simp only [Option.some.injEq, Prod.mk.injEq] at H
          obtain ⟨rfl, rfl, rfl, rfl⟩ := H
          have hnb20 := NB653_654.out
          have hnc20 := NB654_653.out
          have hcz21_0 : wc.cell? ⟨gb653, 0, none⟩ = some (.int .i64 a1_0) := (blk_cell BK653.out 0).trans rfl
          have hcz21_1 : wc.cell? ⟨gb653, 1, none⟩ = some (.int .i64 a1_1) := (blk_cell BK653.out 1).trans rfl
          have hcz21_2 : wc.cell? ⟨gb653, 2, none⟩ = some (.int .i64 a1_2) := (blk_cell BK653.out 2).trans rfl
          have hfz21_0 := blk_frozen BK653.out 0
          have hfz21_1 := blk_frozen BK653.out 1
          have hfz21_2 := blk_frozen BK653.out 2
          go_wp2_with (first | ((with_reducible refine gate_callee (f := 79) rfl ?_); refine goesL_ (some 35) rfl rfl Try.func79 (by kernel_rfl) rfl #[.int .i64 a0, .agg #[.int .i64 a1_0, .int .i64 a1_1, .int .i64 a1_2], .int .i64 a2] rfl (by (try simp only [List.map_toArray, List.map_cons, List.map_nil]); first | done | rfl | (simp only [List.length_drop, List.length_take]; rfl)) ?_; (with_reducible refine (impl_ballOfPlace.calls kj5 a0 a1_0 a1_1 a1_2 a2 t657 t658 t659 t660 t661 t662 t663 _ A18.out).mono ?_); rintro e w22 ⟨rfl, hb⟩; refine ⟨_, rfl, ?_⟩; have n0_ := Aside0.mk (blk_below (bkA BK653) hb); have n1_ := Aside0.mk (blk_below (bkA BK654) hb); have n2_ := Aside0.mk (below_step blA hb); clear BK653; clear BK654; clear HB; have BK653 := n0_; have BK654 := n1_; have HB := n2_; clear n0_ n1_ n2_; (try clear hb); (try clear hb2); (try clear hk); (try clear hi)) | ((with_reducible refine gate_dst (N := 8) rfl ?_); refine box_event ?hg (N := 8) ?hd (cs := #[.int .i64 0, .int .i64 0, .int .i64 0]) (t := 34) ?hr ?_; (case hd => rfl); (case hg => rfl); (case hr => first | (go_simp; done) | (go_simp; rfl)); intro gb664 hg w23 hbox hb; have n0_ := Aside0.mk (blk_below (bkA BK653) hb); have n1_ := Aside0.mk (blk_below (bkA BK654) hb); have n2_ := Aside0.mk (below_step blA hb); have n3_ := Aside0.mk (hbox); have n4_ := Aside0.mk (szA hg blA); have n5_ := Aside0.mk (szA hg blA); have n6_ := Aside0.mk (neA hg (bkA BK653)); have n7_ := Aside0.mk (neB hg (bkA BK653)); have n8_ := Aside0.mk (neA hg (bkA BK654)); have n9_ := Aside0.mk (neB hg (bkA BK654)); clear BK653; clear BK654; clear HB; have BK653 := n0_; have BK654 := n1_; have HB := n2_; have BK664 := n3_; have GW664 := n4_; have GE664 := n5_; have NB653_664 := n6_; have NB664_653 := n7_; have NB654_664 := n8_; have NB664_654 := n9_; clear n0_ n1_ n2_ n3_ n4_ n5_ n6_ n7_ n8_ n9_; clear hb hbox hg) | ((with_reducible refine gate_dst (N := 9) rfl ?_); refine box_event ?hg (N := 9) ?hd (cs := #[.int .i64 0, .int .i64 0, .int .i64 0]) (t := 34) ?hr ?_; (case hd => rfl); (case hg => rfl); (case hr => first | (go_simp; done) | (go_simp; rfl)); intro gb665 hg w24 hbox hb; have n0_ := Aside0.mk (blk_below (bkA BK653) hb); have n1_ := Aside0.mk (blk_below (bkA BK654) hb); have n2_ := Aside0.mk (blk_below (bkA BK664) hb); have n3_ := Aside0.mk (below_step blA hb); have n4_ := Aside0.mk (hbox); have n5_ := Aside0.mk (szA hg blA); have n6_ := Aside0.mk (szA hg blA); have n7_ := Aside0.mk (neA hg (bkA BK653)); have n8_ := Aside0.mk (neB hg (bkA BK653)); have n9_ := Aside0.mk (neA hg (bkA BK654)); have n10_ := Aside0.mk (neB hg (bkA BK654)); have n11_ := Aside0.mk (neA hg (bkA BK664)); have n12_ := Aside0.mk (neB hg (bkA BK664)); clear BK653; clear BK654; clear BK664; clear HB; have BK653 := n0_; have BK654 := n1_; have BK664 := n2_; have HB := n3_; have BK665 := n4_; have GW665 := n5_; have GE665 := n6_; have NB653_665 := n7_; have NB665_653 := n8_; have NB654_665 := n9_; have NB665_654 := n10_; have NB664_665 := n11_; have NB665_664 := n12_; clear n0_ n1_ n2_ n3_ n4_ n5_ n6_ n7_ n8_ n9_ n10_ n11_ n12_; clear hb hbox hg; have hnb25 := NB664_653.out; have hnc25 := NB653_664.out; have hnb26 := NB664_654.out; have hnc26 := NB654_664.out; have hnb27 := NB664_665.out; have hnc27 := NB665_664.out; have hcz28_0 : w24.cell? ⟨gb664, 0, none⟩ = some (.int .i64 0) := (blk_cell BK664.out 0).trans rfl; have hcz28_1 : w24.cell? ⟨gb664, 1, none⟩ = some (.int .i64 0) := (blk_cell BK664.out 1).trans rfl; have hcz28_2 : w24.cell? ⟨gb664, 2, none⟩ = some (.int .i64 0) := (blk_cell BK664.out 2).trans rfl; have hfz28_0 := blk_frozen BK664.out 0; have hfz28_1 := blk_frozen BK664.out 1; have hfz28_2 := blk_frozen BK664.out 2; have hnb29 := NB665_653.out; have hnc29 := NB653_665.out; have hnb30 := NB665_654.out; have hnc30 := NB654_665.out; have hcz31_0 : w24.cell? ⟨gb665, 0, none⟩ = some (.int .i64 0) := (blk_cell BK665.out 0).trans rfl; have hcz31_1 : w24.cell? ⟨gb665, 1, none⟩ = some (.int .i64 0) := (blk_cell BK665.out 1).trans rfl; have hcz31_2 : w24.cell? ⟨gb665, 2, none⟩ = some (.int .i64 0) := (blk_cell BK665.out 2).trans rfl; have hfz31_0 := blk_frozen BK665.out 0; have hfz31_1 := blk_frozen BK665.out 1; have hfz31_2 := blk_frozen BK665.out 2) | ((with_reducible refine gate_callee (f := 80) rfl ?_); refine goesL_ (some 41) rfl rfl Try.func80 (by kernel_rfl) rfl #[.agg #[.int .i64 t657, .int .i64 t658, .int .i64 t659], .bool t663] rfl (by (try simp only [List.map_toArray, List.map_cons, List.map_nil]); first | done | rfl | (simp only [List.length_drop, List.length_take]; rfl)) ?_; (with_reducible refine (impl_fitted.calls t657 t658 t659 t663 t666 t667 t668 t669 _ A19.out).mono ?_); rintro e w32 ⟨rfl, hb⟩; refine ⟨_, rfl, ?_⟩; have n0_ := Aside0.mk (blk_below (g := gb653) (o := .cells #[.int .i64 a1_0, .int .i64 a1_1, .int .i64 a1_2] 34 (0, 0)) (by (with_reducible repeat (first | refine blk_drewN ?_ _ | refine blk_drew ?_ | refine blk_alloc ?_ _)); refine blk_far ?_ NB653_665.out _; (with_reducible repeat (first | refine blk_drewN ?_ _ | refine blk_drew ?_ | refine blk_alloc ?_ _)); refine blk_far ?_ NB653_665.out _; (with_reducible repeat (first | refine blk_drewN ?_ _ | refine blk_drew ?_ | refine blk_alloc ?_ _)); refine blk_far ?_ NB653_665.out _; (with_reducible repeat (first | refine blk_drewN ?_ _ | refine blk_drew ?_ | refine blk_alloc ?_ _)); refine blk_far ?_ NB653_664.out _; (with_reducible repeat (first | refine blk_drewN ?_ _ | refine blk_drew ?_ | refine blk_alloc ?_ _)); refine blk_far ?_ NB653_664.out _; (with_reducible repeat (first | refine blk_drewN ?_ _ | refine blk_drew ?_ | refine blk_alloc ?_ _)); refine blk_far ?_ NB653_664.out _; (with_reducible repeat (first | refine blk_drewN ?_ _ | refine blk_drew ?_ | refine blk_alloc ?_ _)); exact BK653.out) hb); have n1_ := Aside0.mk (blk_below (g := gb654) (o := .cells #[.int .i64 0, .int .i64 0, .int .i64 0] 34 (0, 0)) (by (with_reducible repeat (first | refine blk_drewN ?_ _ | refine blk_drew ?_ | refine blk_alloc ?_ _)); refine blk_far ?_ NB654_665.out _; (with_reducible repeat (first | refine blk_drewN ?_ _ | refine blk_drew ?_ | refine blk_alloc ?_ _)); refine blk_far ?_ NB654_665.out _; (with_reducible repeat (first | refine blk_drewN ?_ _ | refine blk_drew ?_ | refine blk_alloc ?_ _)); refine blk_far ?_ NB654_665.out _; (with_reducible repeat (first | refine blk_drewN ?_ _ | refine blk_drew ?_ | refine blk_alloc ?_ _)); refine blk_far ?_ NB654_664.out _; (with_reducible repeat (first | refine blk_drewN ?_ _ | refine blk_drew ?_ | refine blk_alloc ?_ _)); refine blk_far ?_ NB654_664.out _; (with_reducible repeat (first | refine blk_drewN ?_ _ | refine blk_drew ?_ | refine blk_alloc ?_ _)); refine blk_far ?_ NB654_664.out _; (with_reducible repeat (first | refine blk_drewN ?_ _ | refine blk_drew ?_ | refine blk_alloc ?_ _)); exact BK654.out) hb); have n2_ := Aside0.mk (blk_below (g := gb664) (o := .cells #[.int .i64 t657, .int .i64 t658, .int .i64 t659] 34 (0, 0)) (by (with_reducible repeat (first | refine blk_drewN ?_ _ | refine blk_drew ?_ | refine blk_alloc ?_ _)); refine blk_far ?_ NB664_665.out _; (with_reducible repeat (first | refine blk_drewN ?_ _ | refine blk_drew ?_ | refine blk_alloc ?_ _)); refine blk_far ?_ NB664_665.out _; (with_reducible repeat (first | refine blk_drewN ?_ _ | refine blk_drew ?_ | refine blk_alloc ?_ _)); refine blk_far ?_ NB664_665.out _; (with_reducible repeat (first | refine blk_drewN ?_ _ | refine blk_drew ?_ | refine blk_alloc ?_ _)); refine blk_put (cs := #[.int .i64 t657, .int .i64 t658, .int .i64 0]) ?_ 2 _ rfl; (with_reducible repeat (first | refine blk_drewN ?_ _ | refine blk_drew ?_ | refine blk_alloc ?_ _)); refine blk_put (cs := #[.int .i64 t657, .int .i64 0, .int .i64 0]) ?_ 1 _ rfl; (with_reducible repeat (first | refine blk_drewN ?_ _ | refine blk_drew ?_ | refine blk_alloc ?_ _)); refine blk_put (cs := #[.int .i64 0, .int .i64 0, .int .i64 0]) ?_ 0 _ rfl; (with_reducible repeat (first | refine blk_drewN ?_ _ | refine blk_drew ?_ | refine blk_alloc ?_ _)); exact BK664.out) hb); have n3_ := Aside0.mk (blk_below (g := gb665) (o := .cells #[.int .i64 t660, .int .i64 t661, .int .i64 t662] 34 (0, 0)) (by (with_reducible repeat (first | refine blk_drewN ?_ _ | refine blk_drew ?_ | refine blk_alloc ?_ _)); refine blk_put (cs := #[.int .i64 t660, .int .i64 t661, .int .i64 0]) ?_ 2 _ rfl; (with_reducible repeat (first | refine blk_drewN ?_ _ | refine blk_drew ?_ | refine blk_alloc ?_ _)); refine blk_put (cs := #[.int .i64 t660, .int .i64 0, .int .i64 0]) ?_ 1 _ rfl; (with_reducible repeat (first | refine blk_drewN ?_ _ | refine blk_drew ?_ | refine blk_alloc ?_ _)); refine blk_put (cs := #[.int .i64 0, .int .i64 0, .int .i64 0]) ?_ 0 _ rfl; (with_reducible repeat (first | refine blk_drewN ?_ _ | refine blk_drew ?_ | refine blk_alloc ?_ _)); refine blk_far ?_ NB665_664.out _; (with_reducible repeat (first | refine blk_drewN ?_ _ | refine blk_drew ?_ | refine blk_alloc ?_ _)); refine blk_far ?_ NB665_664.out _; (with_reducible repeat (first | refine blk_drewN ?_ _ | refine blk_drew ?_ | refine blk_alloc ?_ _)); refine blk_far ?_ NB665_664.out _; (with_reducible repeat (first | refine blk_drewN ?_ _ | refine blk_drew ?_ | refine blk_alloc ?_ _)); exact BK665.out) hb); have n4_ := Aside0.mk (below_step blA hb); clear BK653; clear BK654; clear BK664; clear BK665; clear HB; have BK653 := n0_; have BK654 := n1_; have BK664 := n2_; have BK665 := n3_; have HB := n4_; clear n0_ n1_ n2_ n3_ n4_; (try clear hb); (try clear hb2); (try clear hk); (try clear hi); have hcz33_0 : w32.cell? ⟨gb654, 0, none⟩ = some (.int .i64 0) := (blk_cell BK654.out 0).trans rfl; have hcz33_1 : w32.cell? ⟨gb654, 1, none⟩ = some (.int .i64 0) := (blk_cell BK654.out 1).trans rfl; have hcz33_2 : w32.cell? ⟨gb654, 2, none⟩ = some (.int .i64 0) := (blk_cell BK654.out 2).trans rfl; have hfz33_0 := blk_frozen BK654.out 0; have hfz33_1 := blk_frozen BK654.out 1; have hfz33_2 := blk_frozen BK654.out 2))
          refine bodyPost_ret (results_ct rfl _ _ gb654 34 #[.int .i64 t666, .int .i64 t667, .int .i64 t668] (0, 0) _ rfl (by (with_reducible repeat (first | refine blk_drewN ?_ _ | refine blk_drew ?_ | refine blk_alloc ?_ _)); refine blk_put (cs := #[.int .i64 t666, .int .i64 t667, .int .i64 0]) ?_ 2 _ rfl; (with_reducible repeat (first | refine blk_drewN ?_ _ | refine blk_drew ?_ | refine blk_alloc ?_ _)); refine blk_put (cs := #[.int .i64 t666, .int .i64 0, .int .i64 0]) ?_ 1 _ rfl; (with_reducible repeat (first | refine blk_drewN ?_ _ | refine blk_drew ?_ | refine blk_alloc ?_ _)); refine blk_put (cs := #[.int .i64 0, .int .i64 0, .int .i64 0]) ?_ 0 _ rfl; (with_reducible repeat (first | refine blk_drewN ?_ _ | refine blk_drew ?_ | refine blk_alloc ?_ _)); exact BK654.out) Try.underlying34 rfl (by kernel_rfl)) rfl ?_
          exact ⟨by first | rfl | (simp [errW_none, errW_some] <;> rfl) | (simp [*, errW_none, errW_some] <;> rfl), blA⟩
  · replace c5 := Bool.eq_false_iff.mpr c5
    subst c5
    have H1 : (some (0, 0, 0, 1)) = some (r1, r2, r3, r4) := by rw [if_neg (show ¬ (false = true) by decide)] at H; exact H
    clear H
    have H := H1
    clear H1
    simp only [Option.some.injEq, Prod.mk.injEq] at H
    obtain ⟨rfl, rfl, rfl, rfl⟩ := H
    go_enter Try.func27, Try.ntmps27
    go_wp2_with (first | ((with_reducible refine gate_dst (N := 4) rfl ?_); refine box_event ?hg (N := 4) ?hd (cs := #[.int .i64 a1_0, .int .i64 a1_1, .int .i64 a1_2]) (t := 34) ?hr ?_; (case hd => rfl); (case hg => rfl); (case hr => first | (go_simp; done) | (go_simp; rfl)); intro gb653 hg w34 hbox hb; have n0_ := Aside0.mk (below_step blA hb); have n1_ := Aside0.mk (hbox); have n2_ := Aside0.mk (szA hg blA); have n3_ := Aside0.mk (szA hg blA); clear HB; have HB := n0_; have BK653 := n1_; have GW653 := n2_; have GE653 := n3_; clear n0_ n1_ n2_ n3_; clear hb hbox hg) | ((with_reducible refine gate_dst (N := 6) rfl ?_); refine box_event ?hg (N := 6) ?hd (cs := #[.int .i64 0, .int .i64 0, .int .i64 0]) (t := 34) ?hr ?_; (case hd => rfl); (case hg => rfl); (case hr => first | (go_simp; done) | (go_simp; rfl)); intro gb654 hg w35 hbox hb; have n0_ := Aside0.mk (blk_below (bkA BK653) hb); have n1_ := Aside0.mk (below_step blA hb); have n2_ := Aside0.mk (hbox); have n3_ := Aside0.mk (szA hg blA); have n4_ := Aside0.mk (szA hg blA); have n5_ := Aside0.mk (neA hg (bkA BK653)); have n6_ := Aside0.mk (neB hg (bkA BK653)); clear BK653; clear HB; have BK653 := n0_; have HB := n1_; have BK654 := n2_; have GW654 := n3_; have GE654 := n4_; have NB653_654 := n5_; have NB654_653 := n6_; clear n0_ n1_ n2_ n3_ n4_ n5_ n6_; clear hb hbox hg; have hnb36 := NB653_654.out; have hnc36 := NB654_653.out; have hcz37_0 : w35.cell? ⟨gb653, 0, none⟩ = some (.int .i64 a1_0) := (blk_cell BK653.out 0).trans rfl; have hcz37_1 : w35.cell? ⟨gb653, 1, none⟩ = some (.int .i64 a1_1) := (blk_cell BK653.out 1).trans rfl; have hcz37_2 : w35.cell? ⟨gb653, 2, none⟩ = some (.int .i64 a1_2) := (blk_cell BK653.out 2).trans rfl; have hfz37_0 := blk_frozen BK653.out 0; have hfz37_1 := blk_frozen BK653.out 1; have hfz37_2 := blk_frozen BK653.out 2) | ((with_reducible refine gate_callee (f := 77) rfl ?_); refine goesL_ (some 14) rfl rfl Try.func77 (by kernel_rfl) rfl #[.int .i64 a0, .agg #[.int .i64 a1_0, .int .i64 a1_1, .int .i64 a1_2]] rfl (by (try simp only [List.map_toArray, List.map_cons, List.map_nil]); first | done | rfl | (simp only [List.length_drop, List.length_take]; rfl)) ?_; (with_reducible refine (impl_IsBall.calls k a0 a1_0 a1_1 a1_2 false _ A4.out).mono ?_); rintro e w38 ⟨rfl, hb⟩; refine ⟨_, rfl, ?_⟩; have n0_ := Aside0.mk (blk_below (bkA BK653) hb); have n1_ := Aside0.mk (blk_below (bkA BK654) hb); have n2_ := Aside0.mk (below_step blA hb); clear BK653; clear BK654; clear HB; have BK653 := n0_; have BK654 := n1_; have HB := n2_; clear n0_ n1_ n2_; (try clear hb); (try clear hb2); (try clear hk); (try clear hi); have hcz39_0 : w38.cell? ⟨gb654, 0, none⟩ = some (.int .i64 0) := (blk_cell BK654.out 0).trans rfl; have hcz39_1 : w38.cell? ⟨gb654, 1, none⟩ = some (.int .i64 0) := (blk_cell BK654.out 1).trans rfl; have hcz39_2 : w38.cell? ⟨gb654, 2, none⟩ = some (.int .i64 0) := (blk_cell BK654.out 2).trans rfl; have hfz39_0 := blk_frozen BK654.out 0; have hfz39_1 := blk_frozen BK654.out 1; have hfz39_2 := blk_frozen BK654.out 2))
    refine bodyPost_ret (results_ct rfl _ _ gb654 34 #[.int .i64 0, .int .i64 0, .int .i64 0] (0, 0) _ rfl (by (with_reducible repeat (first | refine blk_drewN ?_ _ | refine blk_drew ?_ | refine blk_alloc ?_ _)); refine blk_put (cs := #[.int .i64 0, .int .i64 0, .int .i64 0]) ?_ 2 _ rfl; (with_reducible repeat (first | refine blk_drewN ?_ _ | refine blk_drew ?_ | refine blk_alloc ?_ _)); refine blk_put (cs := #[.int .i64 0, .int .i64 0, .int .i64 0]) ?_ 1 _ rfl; (with_reducible repeat (first | refine blk_drewN ?_ _ | refine blk_drew ?_ | refine blk_alloc ?_ _)); refine blk_put (cs := #[.int .i64 0, .int .i64 0, .int .i64 0]) ?_ 0 _ rfl; (with_reducible repeat (first | refine blk_drewN ?_ _ | refine blk_drew ?_ | refine blk_alloc ?_ _)); exact BK654.out) Try.underlying34 rfl (by kernel_rfl)) rfl ?_
    exact ⟨by first | rfl | (simp [errW_none, errW_some] <;> rfl) | (simp [*, errW_none, errW_some] <;> rfl), blA⟩
end Go.Proofs.Ytfkglijnbgijbaa.PAll
