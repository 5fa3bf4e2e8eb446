-- turned for this claim out of the kit's print: the same functions, packed anew
import Derived.Test.YtmhajnfdbjnegaaQx
import Derived.Test.YtmhajnfdbjnegaaQimplIsMatrix
import Derived.Test.YtmhajnfdbjnegaaQimplmark
import Derived.Test.YtmhajnfdbjnegaaQimplmoveBall
namespace Go.Proofs.Ytmhajnfdbjnegaa.PAll
open Go.RowKit Go.Proofs.YtmhajnfdbjnegaaW.PrintWords Go.Proofs.YtmhajnfdbjnegaaW.PrintLast Go.Proofs.YtmhajnfdbjnegaaW.PrintMore
attribute [local go_sem] Go.Proofs.Ytmhajnfdbjnegaa.Aux.setCell_drewN Go.Proofs.Ytmhajnfdbjnegaa.Aux.isSome_setCell max2_int min2_int max_two min_two max_three min_three max_four min_four   -- for this text's walks alone
set_option linter.unusedVariables false
set_option linter.unusedSimpArgs false
/-! ### impl_fitted: function 79 -/
def impl_fitted.f (a0_0 : Int) (a0_1 : Int) (a0_2 : Int) (a1 : Bool) : Option (Int × Int × Int × Int) := if a1 = true then (some (a0_0, a0_1, a0_2, 0)) else (some (0, 0, 0, 3))
set_option maxHeartbeats 8000000 in
set_option maxRecDepth 100000 in
theorem impl_fitted.calls (a0_0 : Int) (a0_1 : Int) (a0_2 : Int) (a1 : Bool) (r1 : Int) (r2 : Int) (r3 : Int) (r4 : Int) (w : World) (h : impl_fitted.f a0_0 a0_1 a0_2 a1 = some (r1, r2, r3, r4)) :
    Calls Try.prog 79 #[.agg #[.int .i64 a0_0, .int .i64 a0_1, .int .i64 a0_2], .bool a1] w fun e w' => e = .returned (.tuple #[.agg #[.int .i64 r1, .int .i64 r2, .int .i64 r3], .int .i64 r4]) ∧ Below w.heap.size w w' := by
  have hu55 := Try.underlying55
  have HB := Aside0.mk (Below.refl w.heap.size w)
  have H : (if a1 = true then (some (a0_0, a0_1, a0_2, 0)) else (some (0, 0, 0, 3))) = some (r1, r2, r3, r4) := h
  clear h
  by_cases c3 : a1 = true
  · subst c3
    have H1 : (some (a0_0, a0_1, a0_2, 0)) = some (r1, r2, r3, r4) := by rw [if_pos rfl] at H; exact H
    clear H
    have H := H1
    clear H1
    simp only [Option.some.injEq, Prod.mk.injEq] at H
    obtain ⟨rfl, rfl, rfl, rfl⟩ := H
    go_enter Try.func79, Try.ntmps79
    go_wp2_with (first | ((with_reducible refine gate_dst (N := 2) rfl ?_); refine box_event ?hg (N := 2) ?hd (cs := #[.int .i64 a0_0, .int .i64 a0_1, .int .i64 a0_2]) (t := 55) ?hr ?_; (case hd => rfl); (case hg => rfl); (case hr => first | (go_simp; done) | (go_simp; rfl)); intro gb632 hg w4 hbox hb; have n0_ := Aside0.mk (below_step blA hb); have n1_ := Aside0.mk (hbox); have n2_ := Aside0.mk (szA hg blA); have n3_ := Aside0.mk (szA hg blA); clear HB; have HB := n0_; have BK632 := n1_; have GW632 := n2_; have GE632 := n3_; clear n0_ n1_ n2_ n3_; clear hb hbox hg) | ((with_reducible refine gate_dst (N := 4) rfl ?_); refine box_event ?hg (N := 4) ?hd (cs := #[.int .i64 0, .int .i64 0, .int .i64 0]) (t := 55) ?hr ?_; (case hd => rfl); (case hg => rfl); (case hr => first | (go_simp; done) | (go_simp; rfl)); intro gb633 hg w5 hbox hb; have n0_ := Aside0.mk (blk_below (bkA BK632) hb); have n1_ := Aside0.mk (below_step blA hb); have n2_ := Aside0.mk (hbox); have n3_ := Aside0.mk (szA hg blA); have n4_ := Aside0.mk (szA hg blA); have n5_ := Aside0.mk (neA hg (bkA BK632)); have n6_ := Aside0.mk (neB hg (bkA BK632)); clear BK632; clear HB; have BK632 := n0_; have HB := n1_; have BK633 := n2_; have GW633 := n3_; have GE633 := n4_; have NB632_633 := n5_; have NB633_632 := n6_; clear n0_ n1_ n2_ n3_ n4_ n5_ n6_; clear hb hbox hg; have hnb6 := NB632_633.out; have hnc6 := NB633_632.out; have hcz7_0 : w5.cell? ⟨gb632, 0, none⟩ = some (.int .i64 a0_0) := (blk_cell BK632.out 0).trans rfl; have hcz7_1 : w5.cell? ⟨gb632, 1, none⟩ = some (.int .i64 a0_1) := (blk_cell BK632.out 1).trans rfl; have hcz7_2 : w5.cell? ⟨gb632, 2, none⟩ = some (.int .i64 a0_2) := (blk_cell BK632.out 2).trans rfl; have hfz7_0 := blk_frozen BK632.out 0; have hfz7_1 := blk_frozen BK632.out 1; have hfz7_2 := blk_frozen BK632.out 2; have hcz8_0 : w5.cell? ⟨gb633, 0, none⟩ = some (.int .i64 0) := (blk_cell BK633.out 0).trans rfl; have hcz8_1 : w5.cell? ⟨gb633, 1, none⟩ = some (.int .i64 0) := (blk_cell BK633.out 1).trans rfl; have hcz8_2 : w5.cell? ⟨gb633, 2, none⟩ = some (.int .i64 0) := (blk_cell BK633.out 2).trans rfl; have hfz8_0 := blk_frozen BK633.out 0; have hfz8_1 := blk_frozen BK633.out 1; have hfz8_2 := blk_frozen BK633.out 2))
    refine bodyPost_ret (results_ct rfl _ _ gb633 55 #[.int .i64 a0_0, .int .i64 a0_1, .int .i64 a0_2] (0, 0) _ rfl (by (with_reducible repeat (first | refine blk_drewN ?_ _ | refine blk_drew ?_ | refine blk_alloc ?_ _)); refine blk_put (cs := #[.int .i64 a0_0, .int .i64 a0_1, .int .i64 0]) ?_ 2 _ rfl; (with_reducible repeat (first | refine blk_drewN ?_ _ | refine blk_drew ?_ | refine blk_alloc ?_ _)); refine blk_put (cs := #[.int .i64 a0_0, .int .i64 0, .int .i64 0]) ?_ 1 _ rfl; (with_reducible repeat (first | refine blk_drewN ?_ _ | refine blk_drew ?_ | refine blk_alloc ?_ _)); refine blk_put (cs := #[.int .i64 0, .int .i64 0, .int .i64 0]) ?_ 0 _ rfl; (with_reducible repeat (first | refine blk_drewN ?_ _ | refine blk_drew ?_ | refine blk_alloc ?_ _)); exact BK633.out) Try.underlying55 rfl (by kernel_rfl)) rfl ?_
    exact ⟨by first | rfl | (simp [errW_none, errW_some] <;> rfl) | (simp [*, errW_none, errW_some] <;> rfl), blA⟩
  · replace c3 := Bool.eq_false_iff.mpr c3
    subst c3
    have H1 : (some (0, 0, 0, 3)) = some (r1, r2, r3, r4) := by rw [if_neg (show ¬ (false = true) by decide)] at H; exact H
    clear H
    have H := H1
    clear H1
    simp only [Option.some.injEq, Prod.mk.injEq] at H
    obtain ⟨rfl, rfl, rfl, rfl⟩ := H
    go_enter Try.func79, Try.ntmps79
    go_wp2_with (first | ((with_reducible refine gate_dst (N := 2) rfl ?_); refine box_event ?hg (N := 2) ?hd (cs := #[.int .i64 a0_0, .int .i64 a0_1, .int .i64 a0_2]) (t := 55) ?hr ?_; (case hd => rfl); (case hg => rfl); (case hr => first | (go_simp; done) | (go_simp; rfl)); intro gb632 hg w9 hbox hb; have n0_ := Aside0.mk (below_step blA hb); have n1_ := Aside0.mk (hbox); have n2_ := Aside0.mk (szA hg blA); have n3_ := Aside0.mk (szA hg blA); clear HB; have HB := n0_; have BK632 := n1_; have GW632 := n2_; have GE632 := n3_; clear n0_ n1_ n2_ n3_; clear hb hbox hg) | ((with_reducible refine gate_dst (N := 4) rfl ?_); refine box_event ?hg (N := 4) ?hd (cs := #[.int .i64 0, .int .i64 0, .int .i64 0]) (t := 55) ?hr ?_; (case hd => rfl); (case hg => rfl); (case hr => first | (go_simp; done) | (go_simp; rfl)); intro gb633 hg w10 hbox hb; have n0_ := Aside0.mk (blk_below (bkA BK632) hb); have n1_ := Aside0.mk (below_step blA hb); have n2_ := Aside0.mk (hbox); have n3_ := Aside0.mk (szA hg blA); have n4_ := Aside0.mk (szA hg blA); have n5_ := Aside0.mk (neA hg (bkA BK632)); have n6_ := Aside0.mk (neB hg (bkA BK632)); clear BK632; clear HB; have BK632 := n0_; have HB := n1_; have BK633 := n2_; have GW633 := n3_; have GE633 := n4_; have NB632_633 := n5_; have NB633_632 := n6_; clear n0_ n1_ n2_ n3_ n4_ n5_ n6_; clear hb hbox hg; have hnb11 := NB633_632.out; have hnc11 := NB632_633.out; have hcz12_0 : w10.cell? ⟨gb633, 0, none⟩ = some (.int .i64 0) := (blk_cell BK633.out 0).trans rfl; have hcz12_1 : w10.cell? ⟨gb633, 1, none⟩ = some (.int .i64 0) := (blk_cell BK633.out 1).trans rfl; have hcz12_2 : w10.cell? ⟨gb633, 2, none⟩ = some (.int .i64 0) := (blk_cell BK633.out 2).trans rfl; have hfz12_0 := blk_frozen BK633.out 0; have hfz12_1 := blk_frozen BK633.out 1; have hfz12_2 := blk_frozen BK633.out 2))
    refine bodyPost_ret (results_ct rfl _ _ gb633 55 #[.int .i64 0, .int .i64 0, .int .i64 0] (0, 0) _ rfl (by (with_reducible repeat (first | refine blk_drewN ?_ _ | refine blk_drew ?_ | refine blk_alloc ?_ _)); refine blk_put (cs := #[.int .i64 0, .int .i64 0, .int .i64 0]) ?_ 2 _ rfl; (with_reducible repeat (first | refine blk_drewN ?_ _ | refine blk_drew ?_ | refine blk_alloc ?_ _)); refine blk_put (cs := #[.int .i64 0, .int .i64 0, .int .i64 0]) ?_ 1 _ rfl; (with_reducible repeat (first | refine blk_drewN ?_ _ | refine blk_drew ?_ | refine blk_alloc ?_ _)); refine blk_put (cs := #[.int .i64 0, .int .i64 0, .int .i64 0]) ?_ 0 _ rfl; (with_reducible repeat (first | refine blk_drewN ?_ _ | refine blk_drew ?_ | refine blk_alloc ?_ _)); exact BK633.out) Try.underlying55 rfl (by kernel_rfl)) rfl ?_
    exact ⟨by first | rfl | (simp [errW_none, errW_some] <;> rfl) | (simp [*, errW_none, errW_some] <;> rfl), blA⟩
/-! ### impl_MoveBall: function 42 -/
def impl_MoveBall.j0 : Nat → Int → Bool → Int → Int → Int → Int → Int → Int → Int → Option (Int × Int × Int × Int)
  | 0, _, _, _, _, _, _, _, _, _ => none
  | k + 1, x0, x16, x686000, x686001, x686002, x686003, x687000, x687001, x687002 => if x16 = true then (some (0, 0, 0, 1)) else ((impl_moveBall.f k x0 x686000 x686001 x686002 x686003 x687000 x687001 x687002).bind fun bt690 => ((impl_fitted.f bt690.1 bt690.2.1 bt690.2.2.1 bt690.2.2.2).bind fun bt694 => (some (bt694.1, bt694.2.1, bt694.2.2.1, bt694.2.2.2))))
def impl_MoveBall.f (k : Nat) (a0 : Int) (a1_0 : Int) (a1_1 : Int) (a1_2 : Int) (a1_3 : Int) (a2_0 : Int) (a2_1 : Int) (a2_2 : Int) : Option (Int × Int × Int × Int) := (impl_IsBall.f k a0 a2_0 a2_1 a2_2).bind fun t688 => (if t688 = true then ((impl_IsMatrix.f k a1_0 a1_1 a1_2 a1_3).bind fun t689 => (impl_MoveBall.j0 k a0 (!t689) a1_0 a1_1 a1_2 a1_3 a2_0 a2_1 a2_2)) else (impl_MoveBall.j0 k a0 true a1_0 a1_1 a1_2 a1_3 a2_0 a2_1 a2_2))
theorem impl_MoveBall.mono_l : ∀ k, (∀ y0 y1 y2 y3 y4 y5 y6 y7 y8, LeO (impl_MoveBall.j0 k y0 y1 y2 y3 y4 y5 y6 y7 y8) (impl_MoveBall.j0 (k + 1) y0 y1 y2 y3 y4 y5 y6 y7 y8))
  | 0 => fun _ _ _ _ _ _ _ _ _ r h => by simp [impl_MoveBall.j0] at h
  | k + 1 => by
    have ih0 := impl_MoveBall.mono_l k
    · intro y0 y1 y2 y3 y4 y5 y6 y7 y8
      unfold impl_MoveBall.j0
      repeat' first
      | (with_reducible exact ih0 _ _ _ _ _ _ _ _ _)
      | (with_reducible exact impl_IsBall.mono _ _ _ _ _)
      | (with_reducible exact impl_IsMatrix.mono _ _ _ _ _)
      | (with_reducible exact impl_moveBall.mono _ _ _ _ _ _ _ _ _)
      | (with_reducible exact LeO.refl _)
      | (with_reducible exact LeO.none _)
      | (with_reducible refine LeO.ite ?_ ?_)
      | (with_reducible refine LeO.bind ?_ (fun _ => ?_))
      | exact ih0 _ _ _ _ _ _ _ _ _
      | exact impl_IsBall.mono _ _ _ _ _
      | exact impl_IsMatrix.mono _ _ _ _ _
      | exact impl_moveBall.mono _ _ _ _ _ _ _ _ _
      | exact LeO.none _
      | refine LeO.ite ?_ ?_
      | refine LeO.bind ?_ (fun _ => ?_)
theorem impl_MoveBall.mono : ∀ a0 a1 a2 a3 a4 a5 a6 a7 k, LeO (impl_MoveBall.f k a0 a1 a2 a3 a4 a5 a6 a7) (impl_MoveBall.f (k + 1) a0 a1 a2 a3 a4 a5 a6 a7) := by
  intro a0 a1 a2 a3 a4 a5 a6 a7 k
  have ih0 := impl_MoveBall.mono_l k
  unfold impl_MoveBall.f
  repeat' first
      | (with_reducible exact ih0 _ _ _ _ _ _ _ _ _)
      | (with_reducible exact impl_IsBall.mono _ _ _ _ _)
      | (with_reducible exact impl_IsMatrix.mono _ _ _ _ _)
      | (with_reducible exact impl_moveBall.mono _ _ _ _ _ _ _ _ _)
      | (with_reducible exact LeO.refl _)
      | (with_reducible exact LeO.none _)
      | (with_reducible refine LeO.ite ?_ ?_)
      | (with_reducible refine LeO.bind ?_ (fun _ => ?_))
      | exact ih0 _ _ _ _ _ _ _ _ _
      | exact impl_IsBall.mono _ _ _ _ _
      | exact impl_IsMatrix.mono _ _ _ _ _
      | exact impl_moveBall.mono _ _ _ _ _ _ _ _ _
      | exact LeO.none _
      | refine LeO.ite ?_ ?_
      | refine LeO.bind ?_ (fun _ => ?_)
set_option maxHeartbeats 8000000 in
set_option maxRecDepth 100000 in
theorem impl_MoveBall.calls (k : Nat) (a0 : Int) (a1_0 : Int) (a1_1 : Int) (a1_2 : Int) (a1_3 : Int) (a2_0 : Int) (a2_1 : Int) (a2_2 : Int) (r1 : Int) (r2 : Int) (r3 : Int) (r4 : Int) (w : World) (h : impl_MoveBall.f k a0 a1_0 a1_1 a1_2 a1_3 a2_0 a2_1 a2_2 = some (r1, r2, r3, r4)) :
    Calls Try.prog 42 #[.int .i64 a0, .agg #[.int .i64 a1_0, .int .i64 a1_1, .int .i64 a1_2, .int .i64 a1_3], .agg #[.int .i64 a2_0, .int .i64 a2_1, .int .i64 a2_2]] w fun e w' => e = .returned (.tuple #[.agg #[.int .i64 r1, .int .i64 r2, .int .i64 r3], .int .i64 r4]) ∧ Below w.heap.size w w' := by
  have hu25 := Try.underlying25
  have hu55 := Try.underlying55
  have HB := Aside0.mk (Below.refl w.heap.size w)
  have H : ((impl_IsBall.f k a0 a2_0 a2_1 a2_2).bind fun t688 => (if t688 = true then ((impl_IsMatrix.f k a1_0 a1_1 a1_2 a1_3).bind fun t689 => (impl_MoveBall.j0 k a0 (!t689) a1_0 a1_1 a1_2 a1_3 a2_0 a2_1 a2_2)) else (impl_MoveBall.j0 k a0 true a1_0 a1_1 a1_2 a1_3 a2_0 a2_1 a2_2))) = some (r1, r2, r3, r4) := h
  clear h
  have HC4 := Aside0.mk H
  clear H
  go_enter Try.func42, Try.ntmps42
  go_upto_region 1 with (first | ((with_reducible refine gate_dst (N := 4) rfl ?_); refine box_event ?hg (N := 4) ?hd (cs := #[.int .i64 a1_0, .int .i64 a1_1, .int .i64 a1_2, .int .i64 a1_3]) (t := 25) ?hr ?_; (case hd => rfl); (case hg => rfl); (case hr => first | (go_simp; done) | (go_simp; rfl)); intro gb685 hg w5 hbox hb; have n0_ := Aside0.mk (below_step blA hb); have n1_ := Aside0.mk (hbox); have n2_ := Aside0.mk (szA hg blA); have n3_ := Aside0.mk (szA hg blA); clear HB; have HB := n0_; have BK685 := n1_; have GW685 := n2_; have GE685 := n3_; clear n0_ n1_ n2_ n3_; clear hb hbox hg) | ((with_reducible refine gate_dst (N := 5) rfl ?_); refine box_event ?hg (N := 5) ?hd (cs := #[.int .i64 a2_0, .int .i64 a2_1, .int .i64 a2_2]) (t := 55) ?hr ?_; (case hd => rfl); (case hg => rfl); (case hr => first | (go_simp; done) | (go_simp; rfl)); intro gb686 hg w6 hbox hb; have n0_ := Aside0.mk (blk_below (bkA BK685) hb); have n1_ := Aside0.mk (below_step blA hb); have n2_ := Aside0.mk (hbox); have n3_ := Aside0.mk (szA hg blA); have n4_ := Aside0.mk (szA hg blA); have n5_ := Aside0.mk (neA hg (bkA BK685)); have n6_ := Aside0.mk (neB hg (bkA BK685)); clear BK685; clear HB; have BK685 := n0_; have HB := n1_; have BK686 := n2_; have GW686 := n3_; have GE686 := n4_; have NB685_686 := n5_; have NB686_685 := n6_; clear n0_ n1_ n2_ n3_ n4_ n5_ n6_; clear hb hbox hg) | ((with_reducible refine gate_dst (N := 6) rfl ?_); refine box_event ?hg (N := 6) ?hd (cs := #[.int .i64 0, .int .i64 0, .int .i64 0]) (t := 55) ?hr ?_; (case hd => rfl); (case hg => rfl); (case hr => first | (go_simp; done) | (go_simp; rfl)); intro gb687 hg w7 hbox hb; have n0_ := Aside0.mk (blk_below (bkA BK685) hb); have n1_ := Aside0.mk (blk_below (bkA BK686) hb); have n2_ := Aside0.mk (below_step blA hb); have n3_ := Aside0.mk (hbox); have n4_ := Aside0.mk (szA hg blA); have n5_ := Aside0.mk (szA hg blA); have n6_ := Aside0.mk (neA hg (bkA BK685)); have n7_ := Aside0.mk (neB hg (bkA BK685)); have n8_ := Aside0.mk (neA hg (bkA BK686)); have n9_ := Aside0.mk (neB hg (bkA BK686)); clear BK685; clear BK686; clear HB; have BK685 := n0_; have BK686 := n1_; have HB := n2_; have BK687 := n3_; have GW687 := n4_; have GE687 := n5_; have NB685_687 := n6_; have NB687_685 := n7_; have NB686_687 := n8_; have NB687_686 := n9_; clear n0_ n1_ n2_ n3_ n4_ n5_ n6_ n7_ n8_ n9_; clear hb hbox hg))
  (try simp only [Act.put, List.setIfInBounds_toArray, List.set_cons_zero, List.set_cons_succ])
  go_cut [16] (fun v16 wc => ∃ (kq : Nat) (x16_3 : Bool), v16 = .bool x16_3 ∧ Aside0 (impl_MoveBall.j0 kq a0 x16_3 a1_0 a1_1 a1_2 a1_3 a2_0 a2_1 a2_2 = some (r1, r2, r3, r4)) ∧ Aside0 (kq ≤ k) ∧ Aside0 (wc.heap[gb685]? = some (.cells #[.int .i64 a1_0, .int .i64 a1_1, .int .i64 a1_2, .int .i64 a1_3] 25 (0, 0))) ∧ Aside0 (wc.heap[gb686]? = some (.cells #[.int .i64 a2_0, .int .i64 a2_1, .int .i64 a2_2] 55 (0, 0))) ∧ Aside0 (wc.heap[gb687]? = some (.cells #[.int .i64 0, .int .i64 0, .int .i64 0] 55 (0, 0))) ∧ Aside0 (Below w.heap.size w wc))
  case first =>
    have H := HC4.out
    clear HC4
    replace H := Option.bind_eq_some_iff.mp H
    obtain ⟨t688, A80, H⟩ := H
    replace H : (if t688 = true then ((impl_IsMatrix.f k a1_0 a1_1 a1_2 a1_3).bind fun t689 => (impl_MoveBall.j0 k a0 (!t689) a1_0 a1_1 a1_2 a1_3 a2_0 a2_1 a2_2)) else (impl_MoveBall.j0 k a0 true a1_0 a1_1 a1_2 a1_3 a2_0 a2_1 a2_2)) = some (r1, r2, r3, r4) := H
    have A8 := Aside0.mk A80
    clear A80
    by_cases c9 : t688 = true
    · subst c9
      have H1 : ((impl_IsMatrix.f k a1_0 a1_1 a1_2 a1_3).bind fun t689 => (impl_MoveBall.j0 k a0 (!t689) a1_0 a1_1 a1_2 a1_3 a2_0 a2_1 a2_2)) = some (r1, r2, r3, r4) := by rw [if_pos rfl] at H; exact H
      clear H
      have H := H1
      clear H1
      replace H := Option.bind_eq_some_iff.mp H
      obtain ⟨t689, A100, H⟩ := H
      replace H : (impl_MoveBall.j0 k a0 (!t689) a1_0 a1_1 a1_2 a1_3 a2_0 a2_1 a2_2) = some (r1, r2, r3, r4) := H
      have A10 := Aside0.mk A100
      clear A100
      have H' := Aside0.mk H
      clear H
      have hnb11 := NB686_685.out
      have hnc11 := NB685_686.out
      have hnb12 := NB686_687.out
      have hnc12 := NB687_686.out
      have hcz13_0 : w7.cell? ⟨gb686, 0, none⟩ = some (.int .i64 a2_0) := (blk_cell BK686.out 0).trans rfl
      have hcz13_1 : w7.cell? ⟨gb686, 1, none⟩ = some (.int .i64 a2_1) := (blk_cell BK686.out 1).trans rfl
      have hcz13_2 : w7.cell? ⟨gb686, 2, none⟩ = some (.int .i64 a2_2) := (blk_cell BK686.out 2).trans rfl
      have hfz13_0 := blk_frozen BK686.out 0
      have hfz13_1 := blk_frozen BK686.out 1
      have hfz13_2 := blk_frozen BK686.out 2
      go_wp2_with (first | ((with_reducible refine gate_callee (f := 78) rfl ?_); refine goesL_ (some 10) rfl rfl Try.func78 (by kernel_rfl) rfl #[.int .i64 a0, .agg #[.int .i64 a2_0, .int .i64 a2_1, .int .i64 a2_2]] rfl (by (try simp only [List.map_toArray, List.map_cons, List.map_nil]); first | done | rfl | (simp only [List.length_drop, List.length_take]; rfl)) ?_; (with_reducible refine (impl_IsBall.calls k a0 a2_0 a2_1 a2_2 true _ A8.out).mono ?_); rintro e w14 ⟨rfl, hb⟩; refine ⟨_, rfl, ?_⟩; have n0_ := Aside0.mk (blk_below (bkA BK685) hb); have n1_ := Aside0.mk (blk_below (bkA BK686) hb); have n2_ := Aside0.mk (blk_below (bkA BK687) hb); have n3_ := Aside0.mk (below_step blA hb); clear BK685; clear BK686; clear BK687; clear HB; have BK685 := n0_; have BK686 := n1_; have BK687 := n2_; have HB := n3_; clear n0_ n1_ n2_ n3_; (try clear hb); (try clear hb2); (try clear hk); (try clear hi); have hnb15 := NB685_687.out; have hnc15 := NB687_685.out; have hcz16_0 : w14.cell? ⟨gb685, 0, none⟩ = some (.int .i64 a1_0) := (blk_cell BK685.out 0).trans rfl; have hcz16_1 : w14.cell? ⟨gb685, 1, none⟩ = some (.int .i64 a1_1) := (blk_cell BK685.out 1).trans rfl; have hcz16_2 : w14.cell? ⟨gb685, 2, none⟩ = some (.int .i64 a1_2) := (blk_cell BK685.out 2).trans rfl; have hcz16_3 : w14.cell? ⟨gb685, 3, none⟩ = some (.int .i64 a1_3) := (blk_cell BK685.out 3).trans rfl; have hfz16_0 := blk_frozen BK685.out 0; have hfz16_1 := blk_frozen BK685.out 1; have hfz16_2 := blk_frozen BK685.out 2; have hfz16_3 := blk_frozen BK685.out 3) | (go_at_call 17; (with_reducible refine (impl_IsMatrix.calls k a1_0 a1_1 a1_2 a1_3 t689 _ A10.out).mono ?_); rintro e w17 ⟨rfl, hb⟩; have n0_ := Aside0.mk (blk_below (bkA BK685) hb); have n1_ := Aside0.mk (blk_below (bkA BK686) hb); have n2_ := Aside0.mk (blk_below (bkA BK687) hb); have n3_ := Aside0.mk (below_step blA hb); clear BK685; clear BK686; clear BK687; clear HB; have BK685 := n0_; have BK686 := n1_; have BK687 := n2_; have HB := n3_; clear n0_ n1_ n2_ n3_; (try clear hb); (try clear hb2); (try clear hk); (try clear hi)))
      go_meet
      case rel => exact ⟨_, (!t689), (by first | rfl | (simp; done) | (simp [*]; done)), H', ⟨by first | omega | exact Nat.le_refl _⟩, ⟨bkA BK685⟩, ⟨bkA BK686⟩, ⟨bkA BK687⟩, ⟨blA⟩⟩
    · replace c9 := Bool.eq_false_iff.mpr c9
      subst c9
      have H1 : (impl_MoveBall.j0 k a0 true a1_0 a1_1 a1_2 a1_3 a2_0 a2_1 a2_2) = some (r1, r2, r3, r4) := by rw [if_neg (show ¬ (false = true) by decide)] at H; exact H
      clear H
      have H := H1
      clear H1
      have H' := Aside0.mk H
      clear H
      have hnb18 := NB686_685.out
      have hnc18 := NB685_686.out
      have hnb19 := NB686_687.out
      have hnc19 := NB687_686.out
      have hcz20_0 : w7.cell? ⟨gb686, 0, none⟩ = some (.int .i64 a2_0) := (blk_cell BK686.out 0).trans rfl
      have hcz20_1 : w7.cell? ⟨gb686, 1, none⟩ = some (.int .i64 a2_1) := (blk_cell BK686.out 1).trans rfl
      have hcz20_2 : w7.cell? ⟨gb686, 2, none⟩ = some (.int .i64 a2_2) := (blk_cell BK686.out 2).trans rfl
      have hfz20_0 := blk_frozen BK686.out 0
      have hfz20_1 := blk_frozen BK686.out 1
      have hfz20_2 := blk_frozen BK686.out 2
      go_wp2_with (first | ((with_reducible refine gate_callee (f := 78) rfl ?_); refine goesL_ (some 10) rfl rfl Try.func78 (by kernel_rfl) rfl #[.int .i64 a0, .agg #[.int .i64 a2_0, .int .i64 a2_1, .int .i64 a2_2]] rfl (by (try simp only [List.map_toArray, List.map_cons, List.map_nil]); first | done | rfl | (simp only [List.length_drop, List.length_take]; rfl)) ?_; (with_reducible refine (impl_IsBall.calls k a0 a2_0 a2_1 a2_2 false _ A8.out).mono ?_); rintro e w21 ⟨rfl, hb⟩; refine ⟨_, rfl, ?_⟩; have n0_ := Aside0.mk (blk_below (bkA BK685) hb); have n1_ := Aside0.mk (blk_below (bkA BK686) hb); have n2_ := Aside0.mk (blk_below (bkA BK687) hb); have n3_ := Aside0.mk (below_step blA hb); clear BK685; clear BK686; clear BK687; clear HB; have BK685 := n0_; have BK686 := n1_; have BK687 := n2_; have HB := n3_; clear n0_ n1_ n2_ n3_; (try clear hb); (try clear hb2); (try clear hk); (try clear hi)))
      go_meet
      case rel => exact ⟨_, (true), (by first | rfl | (simp; done) | (simp [*]; done)), H', ⟨by first | omega | exact Nat.le_refl _⟩, ⟨bkA BK685⟩, ⟨bkA BK686⟩, ⟨bkA BK687⟩, ⟨blA⟩⟩
  case rest =>
    clear HC4
    try clear c1
    try clear p2
    try clear c4
    try clear c7
    try clear c9
    try clear c11
    try clear c12
    try clear c15
    try clear c18
    try clear c19
    try clear hcz13_0
    try clear hcz13_1
    try clear hcz13_2
    try clear hcz16_0
    try clear hcz16_1
    try clear hcz16_2
    try clear hcz16_3
    try clear hcz20_0
    try clear hcz20_1
    try clear hcz20_2
    try clear hfz13_0
    try clear hfz13_1
    try clear hfz13_2
    try clear hfz16_0
    try clear hfz16_1
    try clear hfz16_2
    try clear hfz16_3
    try clear hfz20_0
    try clear hfz20_1
    try clear hfz20_2
    obtain ⟨kq, x16_3, rfl, HA, HJ3, BK685, BK686, BK687, HB⟩ := hcut
    cases kq with
    | zero => exact absurd HA.out (by simp [impl_MoveBall.j0])
    | succ kj3 =>
      have H := HA.out
      clear HA
      simp only [impl_MoveBall.j0] at H
      by_cases c22 : x16_3 = true
      · subst c22
        have H1 : (some (0, 0, 0, 1)) = some (r1, r2, r3, r4) := by rw [if_pos rfl] at H; exact H
        clear H
        have H := H1
        clear H1
        simp only [Option.some.injEq, Prod.mk.injEq] at H
        obtain ⟨rfl, rfl, rfl, rfl⟩ := H
        have hnb23 := NB687_685.out
        have hnc23 := NB685_687.out
        have hnb24 := NB687_686.out
        have hnc24 := NB686_687.out
        have hcz25_0 : wc.cell? ⟨gb687, 0, none⟩ = some (.int .i64 0) := (blk_cell BK687.out 0).trans rfl
        have hcz25_1 : wc.cell? ⟨gb687, 1, none⟩ = some (.int .i64 0) := (blk_cell BK687.out 1).trans rfl
        have hcz25_2 : wc.cell? ⟨gb687, 2, none⟩ = some (.int .i64 0) := (blk_cell BK687.out 2).trans rfl
        have hfz25_0 := blk_frozen BK687.out 0
        have hfz25_1 := blk_frozen BK687.out 1
        have hfz25_2 := blk_frozen BK687.out 2
        go_wp2
        refine bodyPost_ret (results_ct rfl _ _ gb687 55 #[.int .i64 0, .int .i64 0, .int .i64 0] (0, 0) _ rfl (by (with_reducible repeat (first | refine blk_drewN ?_ _ | refine blk_drew ?_ | refine blk_alloc ?_ _)); refine blk_put (cs := #[.int .i64 0, .int .i64 0, .int .i64 0]) ?_ 2 _ rfl; (with_reducible repeat (first | refine blk_drewN ?_ _ | refine blk_drew ?_ | refine blk_alloc ?_ _)); refine blk_put (cs := #[.int .i64 0, .int .i64 0, .int .i64 0]) ?_ 1 _ rfl; (with_reducible repeat (first | refine blk_drewN ?_ _ | refine blk_drew ?_ | refine blk_alloc ?_ _)); refine blk_put (cs := #[.int .i64 0, .int .i64 0, .int .i64 0]) ?_ 0 _ rfl; (with_reducible repeat (first | refine blk_drewN ?_ _ | refine blk_drew ?_ | refine blk_alloc ?_ _)); exact BK687.out) Try.underlying55 rfl (by kernel_rfl)) rfl ?_
        exact ⟨by first | rfl | (simp [errW_none, errW_some] <;> rfl) | (simp [*, errW_none, errW_some] <;> rfl), blA⟩
      · replace c22 := Bool.eq_false_iff.mpr c22
        subst c22
        have H1 : ((impl_moveBall.f kj3 a0 a1_0 a1_1 a1_2 a1_3 a2_0 a2_1 a2_2).bind fun bt690 => ((impl_fitted.f bt690.1 bt690.2.1 bt690.2.2.1 bt690.2.2.2).bind fun bt694 => (some (bt694.1, bt694.2.1, bt694.2.2.1, bt694.2.2.2)))) = some (r1, r2, r3, r4) := by rw [if_neg (show ¬ (false = true) by decide)] at H; exact H
        clear H
        have H := H1
        clear H1
        replace H := Option.bind_eq_some_iff.mp H
        obtain ⟨⟨t690, t691, t692, t693⟩, A260, H⟩ := H
        replace H : ((impl_fitted.f t690 t691 t692 t693).bind fun bt694 => (some (bt694.1, bt694.2.1, bt694.2.2.1, bt694.2.2.2))) = some (r1, r2, r3, r4) := H
        have A26 := Aside0.mk A260
        clear A260
        replace H := Option.bind_eq_some_iff.mp H
        obtain ⟨⟨t694, t695, t696, t697⟩, A270, H⟩ := H
        replace H : (some (t694, t695, t696, t697)) = some (r1, r2, r3, r4) := H
        have A27 := Aside0.mk A270
        clear A270
        simp only [Option.some.injEq, Prod.mk.injEq] at H
        obtain ⟨rfl, rfl, rfl, rfl⟩ := H
        have hnb28 := NB685_686.out
        have hnc28 := NB686_685.out
        have hnb29 := NB685_687.out
        have hnc29 := NB687_685.out
        have hcz30_0 : wc.cell? ⟨gb685, 0, none⟩ = some (.int .i64 a1_0) := (blk_cell BK685.out 0).trans rfl
        have hcz30_1 : wc.cell? ⟨gb685, 1, none⟩ = some (.int .i64 a1_1) := (blk_cell BK685.out 1).trans rfl
        have hcz30_2 : wc.cell? ⟨gb685, 2, none⟩ = some (.int .i64 a1_2) := (blk_cell BK685.out 2).trans rfl
        have hcz30_3 : wc.cell? ⟨gb685, 3, none⟩ = some (.int .i64 a1_3) := (blk_cell BK685.out 3).trans rfl
        have hfz30_0 := blk_frozen BK685.out 0
        have hfz30_1 := blk_frozen BK685.out 1
        have hfz30_2 := blk_frozen BK685.out 2
        have hfz30_3 := blk_frozen BK685.out 3
        have hnb31 := NB686_687.out
        have hnc31 := NB687_686.out
        have hcz32_0 : wc.cell? ⟨gb686, 0, none⟩ = some (.int .i64 a2_0) := (blk_cell BK686.out 0).trans rfl
        have hcz32_1 : wc.cell? ⟨gb686, 1, none⟩ = some (.int .i64 a2_1) := (blk_cell BK686.out 1).trans rfl
        have hcz32_2 : wc.cell? ⟨gb686, 2, none⟩ = some (.int .i64 a2_2) := (blk_cell BK686.out 2).trans rfl
        have hfz32_0 := blk_frozen BK686.out 0
        have hfz32_1 := blk_frozen BK686.out 1
        have hfz32_2 := blk_frozen BK686.out 2
        go_wp2_with (first | ((with_reducible refine gate_callee (f := 80) rfl ?_); refine goesL_ (some 21) rfl rfl Try.func80 (by kernel_rfl) rfl #[.int .i64 a0, .agg #[.int .i64 a1_0, .int .i64 a1_1, .int .i64 a1_2, .int .i64 a1_3], .agg #[.int .i64 a2_0, .int .i64 a2_1, .int .i64 a2_2]] rfl (by (try simp only [List.map_toArray, List.map_cons, List.map_nil]); first | done | rfl | (simp only [List.length_drop, List.length_take]; rfl)) ?_; (with_reducible refine (impl_moveBall.calls kj3 a0 a1_0 a1_1 a1_2 a1_3 a2_0 a2_1 a2_2 t690 t691 t692 t693 _ A26.out).mono ?_); rintro e w33 ⟨rfl, hb⟩; refine ⟨_, rfl, ?_⟩; have n0_ := Aside0.mk (blk_below (bkA BK685) hb); have n1_ := Aside0.mk (blk_below (bkA BK686) hb); have n2_ := Aside0.mk (blk_below (bkA BK687) hb); have n3_ := Aside0.mk (below_step blA hb); clear BK685; clear BK686; clear BK687; clear HB; have BK685 := n0_; have BK686 := n1_; have BK687 := n2_; have HB := n3_; clear n0_ n1_ n2_ n3_; (try clear hb); (try clear hb2); (try clear hk); (try clear hi)) | ((with_reducible refine gate_callee (f := 79) rfl ?_); refine goesL_ (some 24) rfl rfl Try.func79 (by kernel_rfl) rfl #[.agg #[.int .i64 t690, .int .i64 t691, .int .i64 t692], .bool t693] rfl (by (try simp only [List.map_toArray, List.map_cons, List.map_nil]); first | done | rfl | (simp only [List.length_drop, List.length_take]; rfl)) ?_; (with_reducible refine (impl_fitted.calls t690 t691 t692 t693 t694 t695 t696 t697 _ A27.out).mono ?_); rintro e w34 ⟨rfl, hb⟩; refine ⟨_, rfl, ?_⟩; have n0_ := Aside0.mk (blk_below (bkA BK685) hb); have n1_ := Aside0.mk (blk_below (bkA BK686) hb); have n2_ := Aside0.mk (blk_below (bkA BK687) hb); have n3_ := Aside0.mk (below_step blA hb); clear BK685; clear BK686; clear BK687; clear HB; have BK685 := n0_; have BK686 := n1_; have BK687 := n2_; have HB := n3_; clear n0_ n1_ n2_ n3_; (try clear hb); (try clear hb2); (try clear hk); (try clear hi); have hcz35_0 : w34.cell? ⟨gb687, 0, none⟩ = some (.int .i64 0) := (blk_cell BK687.out 0).trans rfl; have hcz35_1 : w34.cell? ⟨gb687, 1, none⟩ = some (.int .i64 0) := (blk_cell BK687.out 1).trans rfl; have hcz35_2 : w34.cell? ⟨gb687, 2, none⟩ = some (.int .i64 0) := (blk_cell BK687.out 2).trans rfl; have hfz35_0 := blk_frozen BK687.out 0; have hfz35_1 := blk_frozen BK687.out 1; have hfz35_2 := blk_frozen BK687.out 2))
        refine bodyPost_ret (results_ct rfl _ _ gb687 55 #[.int .i64 t694, .int .i64 t695, .int .i64 t696] (0, 0) _ rfl (by (with_reducible repeat (first | refine blk_drewN ?_ _ | refine blk_drew ?_ | refine blk_alloc ?_ _)); refine blk_put (cs := #[.int .i64 t694, .int .i64 t695, .int .i64 0]) ?_ 2 _ rfl; (with_reducible repeat (first | refine blk_drewN ?_ _ | refine blk_drew ?_ | refine blk_alloc ?_ _)); refine blk_put (cs := #[.int .i64 t694, .int .i64 0, .int .i64 0]) ?_ 1 _ rfl; (with_reducible repeat (first | refine blk_drewN ?_ _ | refine blk_drew ?_ | refine blk_alloc ?_ _)); refine blk_put (cs := #[.int .i64 0, .int .i64 0, .int .i64 0]) ?_ 0 _ rfl; (with_reducible repeat (first | refine blk_drewN ?_ _ | refine blk_drew ?_ | refine blk_alloc ?_ _)); exact BK687.out) Try.underlying55 rfl (by kernel_rfl)) rfl ?_
        exact ⟨by first | rfl | (simp [errW_none, errW_some] <;> rfl) | (simp [*, errW_none, errW_some] <;> rfl), blA⟩
end Go.Proofs.Ytmhajnfdbjnegaa.PAll
