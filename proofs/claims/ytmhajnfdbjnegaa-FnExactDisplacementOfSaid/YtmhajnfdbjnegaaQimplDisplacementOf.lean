-- turned for this claim out of the kit's print: the same functions, packed anew
import Derived.Test.YtmhajnfdbjnegaaQx
import Derived.Test.YtmhajnfdbjnegaaQimplMoveBall
import Derived.Test.YtmhajnfdbjnegaaQimplmark
import Derived.Test.YtmhajnfdbjnegaaQimpltimes
import Derived.Test.YtmhajnfdbjnegaaQspecl01Code
import Derived.Test.YtmhajnfdbjnegaaQspecl04Code
namespace Go.Proofs.Ytmhajnfdbjnegaa.PAll
open Go.RowKit Go.Proofs.YtmhajnfdbjnegaaW.PrintWords Go.Proofs.YtmhajnfdbjnegaaW.PrintLast Go.Proofs.YtmhajnfdbjnegaaW.PrintMore
attribute [local go_sem] Go.Proofs.Ytmhajnfdbjnegaa.Aux.setCell_drewN Go.Proofs.Ytmhajnfdbjnegaa.Aux.isSome_setCell max2_int min2_int max_two min_two max_three min_three max_four min_four   -- for this text's walks alone
set_option linter.unusedVariables false
set_option linter.unusedSimpArgs false
/-! ### spec_l02Valuation: function 111 -/
def spec_l02Valuation.f (k : Nat) (a0 : Int) (a1_0 : Int) (a1_1 : Int) (a1_2 : Int) (a2_0 : Int) (a2_1 : Int) (a2_2 : Int) : Option (Int × Bool) := (spec_l01Power.f k a0 (wrap64 ((mx a1_2 a2_2) - a1_2))).bind fun t729 => ((spec_l01Power.f k a0 (wrap64 ((mx a1_2 a2_2) - a2_2))).bind fun t730 => (if (wrap64 ((wrap64 (a1_1 * t729)) - (wrap64 (a2_1 * t730)))) = 0 then (some (0, false)) else ((spec_l01Val.f k a0 (wrap64 ((wrap64 (a1_1 * t729)) - (wrap64 (a2_1 * t730))))).bind fun t731 => (some (wrap64 (t731 - (mx a1_2 a2_2)), true)))))
theorem spec_l02Valuation.mono : ∀ a0 a1 a2 a3 a4 a5 a6 k, LeO (spec_l02Valuation.f k a0 a1 a2 a3 a4 a5 a6) (spec_l02Valuation.f (k + 1) a0 a1 a2 a3 a4 a5 a6) := by
  intro a0 a1 a2 a3 a4 a5 a6 k
  unfold spec_l02Valuation.f
  repeat' first
      | (with_reducible exact spec_l01Power.mono _ _ _)
      | (with_reducible exact spec_l01Val.mono _ _ _)
      | (with_reducible exact LeO.refl _)
      | (with_reducible exact LeO.none _)
      | (with_reducible refine LeO.ite ?_ ?_)
      | (with_reducible refine LeO.bind ?_ (fun _ => ?_))
      | exact spec_l01Power.mono _ _ _
      | exact spec_l01Val.mono _ _ _
      | exact LeO.none _
      | refine LeO.ite ?_ ?_
      | refine LeO.bind ?_ (fun _ => ?_)
set_option maxHeartbeats 8000000 in
set_option maxRecDepth 100000 in
theorem spec_l02Valuation.calls (k : Nat) (a0 : Int) (a1_0 : Int) (a1_1 : Int) (a1_2 : Int) (a2_0 : Int) (a2_1 : Int) (a2_2 : Int) (r1 : Int) (r2 : Bool) (w : World) (h : spec_l02Valuation.f k a0 a1_0 a1_1 a1_2 a2_0 a2_1 a2_2 = some (r1, r2)) :
    Calls Try.prog 111 #[.int .i64 a0, .agg #[.int .i64 a1_0, .int .i64 a1_1, .int .i64 a1_2], .agg #[.int .i64 a2_0, .int .i64 a2_1, .int .i64 a2_2]] w fun e w' => e = .returned (.tuple #[.int .i64 r1, .bool r2]) ∧ Below w.heap.size w w' := by
  have hu55 := Try.underlying55
  have HB := Aside0.mk (Below.refl w.heap.size w)
  have H : ((spec_l01Power.f k a0 (wrap64 ((mx a1_2 a2_2) - a1_2))).bind fun t729 => ((spec_l01Power.f k a0 (wrap64 ((mx a1_2 a2_2) - a2_2))).bind fun t730 => (if (wrap64 ((wrap64 (a1_1 * t729)) - (wrap64 (a2_1 * t730)))) = 0 then (some (0, false)) else ((spec_l01Val.f k a0 (wrap64 ((wrap64 (a1_1 * t729)) - (wrap64 (a2_1 * t730))))).bind fun t731 => (some (wrap64 (t731 - (mx a1_2 a2_2)), true)))))) = some (r1, r2) := h
  clear h
  obtain ⟨ji4, hji4⟩ : ∃ j_ : Int, (mx a1_2 a2_2) = j_ := ⟨_, rfl⟩
  replace H : ((spec_l01Power.f k a0 (wrap64 ((ji4) - a1_2))).bind fun t729 => ((spec_l01Power.f k a0 (wrap64 ((ji4) - a2_2))).bind fun t730 => (if (wrap64 ((wrap64 (a1_1 * t729)) - (wrap64 (a2_1 * t730)))) = 0 then (some (0, false)) else ((spec_l01Val.f k a0 (wrap64 ((wrap64 (a1_1 * t729)) - (wrap64 (a2_1 * t730))))).bind fun t731 => (some (wrap64 (t731 - (ji4)), true)))))) = some (r1, r2) := by first | (rw [hji4] at H; exact H) | (simp only [hji4] at H ⊢; exact H)
  have hji4_ : (if a1_2 < a2_2 then a2_2 else a1_2) = ji4 := hji4
  replace H := Option.bind_eq_some_iff.mp H
  obtain ⟨t729, A50, H⟩ := H
  replace H : ((spec_l01Power.f k a0 (wrap64 ((ji4) - a2_2))).bind fun t730 => (if (wrap64 ((wrap64 (a1_1 * t729)) - (wrap64 (a2_1 * t730)))) = 0 then (some (0, false)) else ((spec_l01Val.f k a0 (wrap64 ((wrap64 (a1_1 * t729)) - (wrap64 (a2_1 * t730))))).bind fun t731 => (some (wrap64 (t731 - (ji4)), true))))) = some (r1, r2) := H
  have A5 := Aside0.mk A50
  clear A50
  replace H := Option.bind_eq_some_iff.mp H
  obtain ⟨t730, A60, H⟩ := H
  replace H : (if (wrap64 ((wrap64 (a1_1 * t729)) - (wrap64 (a2_1 * t730)))) = 0 then (some (0, false)) else ((spec_l01Val.f k a0 (wrap64 ((wrap64 (a1_1 * t729)) - (wrap64 (a2_1 * t730))))).bind fun t731 => (some (wrap64 (t731 - (ji4)), true)))) = some (r1, r2) := H
  have A6 := Aside0.mk A60
  clear A60
  by_cases c7 : (wrap64 ((wrap64 (a1_1 * t729)) - (wrap64 (a2_1 * t730)))) = 0
  · rw [if_pos c7] at H
    have c7b0 : ((wrap64 ((wrap64 (a1_1 * t729)) - (wrap64 (a2_1 * t730)))) == 0) = true := beq_iff_eq.mpr c7
    have c7b1 : ((wrap64 ((wrap64 (a1_1 * t729)) - (wrap64 (a2_1 * t730)))) != 0) = false := bne_eq_false_iff_eq.mpr c7
    clear c7
    simp only [Option.some.injEq, Prod.mk.injEq] at H
    obtain ⟨rfl, rfl⟩ := H
    go_enter Try.func111, Try.ntmps111
    go_wp2_with (first | ((with_reducible refine gate_dst (N := 4) rfl ?_); refine box_event ?hg (N := 4) ?hd (cs := #[.int .i64 a1_0, .int .i64 a1_1, .int .i64 a1_2]) (t := 55) ?hr ?_; (case hd => rfl); (case hg => rfl); (case hr => first | (go_simp; done) | (go_simp; rfl)); intro gb727 hg w8 hbox hb; have n0_ := Aside0.mk (below_step blA hb); have n1_ := Aside0.mk (hbox); have n2_ := Aside0.mk (szA hg blA); have n3_ := Aside0.mk (szA hg blA); clear HB; have HB := n0_; have BK727 := n1_; have GW727 := n2_; have GE727 := n3_; clear n0_ n1_ n2_ n3_; clear hb hbox hg) | ((with_reducible refine gate_dst (N := 5) rfl ?_); refine box_event ?hg (N := 5) ?hd (cs := #[.int .i64 a2_0, .int .i64 a2_1, .int .i64 a2_2]) (t := 55) ?hr ?_; (case hd => rfl); (case hg => rfl); (case hr => first | (go_simp; done) | (go_simp; rfl)); intro gb728 hg w9 hbox hb; have n0_ := Aside0.mk (blk_below (bkA BK727) hb); have n1_ := Aside0.mk (below_step blA hb); have n2_ := Aside0.mk (hbox); have n3_ := Aside0.mk (szA hg blA); have n4_ := Aside0.mk (szA hg blA); have n5_ := Aside0.mk (neA hg (bkA BK727)); have n6_ := Aside0.mk (neB hg (bkA BK727)); clear BK727; clear HB; have BK727 := n0_; have HB := n1_; have BK728 := n2_; have GW728 := n3_; have GE728 := n4_; have NB727_728 := n5_; have NB728_727 := n6_; clear n0_ n1_ n2_ n3_ n4_ n5_ n6_; clear hb hbox hg; have hnb10 := NB727_728.out; have hnc10 := NB728_727.out; have hcz11_0 : w9.cell? ⟨gb727, 0, none⟩ = some (.int .i64 a1_0) := (blk_cell BK727.out 0).trans rfl; have hcz11_1 : w9.cell? ⟨gb727, 1, none⟩ = some (.int .i64 a1_1) := (blk_cell BK727.out 1).trans rfl; have hcz11_2 : w9.cell? ⟨gb727, 2, none⟩ = some (.int .i64 a1_2) := (blk_cell BK727.out 2).trans rfl; have hfz11_0 := blk_frozen BK727.out 0; have hfz11_1 := blk_frozen BK727.out 1; have hfz11_2 := blk_frozen BK727.out 2; have hcz12_0 : w9.cell? ⟨gb728, 0, none⟩ = some (.int .i64 a2_0) := (blk_cell BK728.out 0).trans rfl; have hcz12_1 : w9.cell? ⟨gb728, 1, none⟩ = some (.int .i64 a2_1) := (blk_cell BK728.out 1).trans rfl; have hcz12_2 : w9.cell? ⟨gb728, 2, none⟩ = some (.int .i64 a2_2) := (blk_cell BK728.out 2).trans rfl; have hfz12_0 := blk_frozen BK728.out 0; have hfz12_1 := blk_frozen BK728.out 1; have hfz12_2 := blk_frozen BK728.out 2) | (go_at_call 95; (with_reducible refine (spec_l01Power.calls k a0 (wrap64 ((ji4) - a1_2)) t729 _ A5.out).mono ?_); rintro e w' ⟨rfl, ⟨nd, rfl⟩⟩; (try first | exact ⟨rfl, _, World.drewN_drewN _ _ _⟩ | exact ⟨rfl, _, Eq.trans (World.drewN_drewN _ _ _) (congrArg (World.drewN _) (Nat.add_assoc _ _ _))⟩)) | (go_at_call 95; (with_reducible refine (spec_l01Power.calls k a0 (wrap64 ((ji4) - a2_2)) t730 _ A6.out).mono ?_); rintro e w' ⟨rfl, ⟨nd, rfl⟩⟩; (try first | exact ⟨rfl, _, World.drewN_drewN _ _ _⟩ | exact ⟨rfl, _, Eq.trans (World.drewN_drewN _ _ _) (congrArg (World.drewN _) (Nat.add_assoc _ _ _))⟩)))
    repeat (go_quiet (first | ((with_reducible refine gate_dst (N := 4) rfl ?_); refine box_event ?hg (N := 4) ?hd (cs := #[.int .i64 a1_0, .int .i64 a1_1, .int .i64 a1_2]) (t := 55) ?hr ?_; (case hd => rfl); (case hg => rfl); (case hr => first | (go_simp; done) | (go_simp; rfl)); intro gb727 hg w8 hbox hb; have n0_ := Aside0.mk (below_step blA hb); have n1_ := Aside0.mk (hbox); have n2_ := Aside0.mk (szA hg blA); have n3_ := Aside0.mk (szA hg blA); clear HB; have HB := n0_; have BK727 := n1_; have GW727 := n2_; have GE727 := n3_; clear n0_ n1_ n2_ n3_; clear hb hbox hg) | ((with_reducible refine gate_dst (N := 5) rfl ?_); refine box_event ?hg (N := 5) ?hd (cs := #[.int .i64 a2_0, .int .i64 a2_1, .int .i64 a2_2]) (t := 55) ?hr ?_; (case hd => rfl); (case hg => rfl); (case hr => first | (go_simp; done) | (go_simp; rfl)); intro gb728 hg w9 hbox hb; have n0_ := Aside0.mk (blk_below (bkA BK727) hb); have n1_ := Aside0.mk (below_step blA hb); have n2_ := Aside0.mk (hbox); have n3_ := Aside0.mk (szA hg blA); have n4_ := Aside0.mk (szA hg blA); have n5_ := Aside0.mk (neA hg (bkA BK727)); have n6_ := Aside0.mk (neB hg (bkA BK727)); clear BK727; clear HB; have BK727 := n0_; have HB := n1_; have BK728 := n2_; have GW728 := n3_; have GE728 := n4_; have NB727_728 := n5_; have NB728_727 := n6_; clear n0_ n1_ n2_ n3_ n4_ n5_ n6_; clear hb hbox hg; have hnb10 := NB727_728.out; have hnc10 := NB728_727.out; have hcz11_0 : w9.cell? ⟨gb727, 0, none⟩ = some (.int .i64 a1_0) := (blk_cell BK727.out 0).trans rfl; have hcz11_1 : w9.cell? ⟨gb727, 1, none⟩ = some (.int .i64 a1_1) := (blk_cell BK727.out 1).trans rfl; have hcz11_2 : w9.cell? ⟨gb727, 2, none⟩ = some (.int .i64 a1_2) := (blk_cell BK727.out 2).trans rfl; have hfz11_0 := blk_frozen BK727.out 0; have hfz11_1 := blk_frozen BK727.out 1; have hfz11_2 := blk_frozen BK727.out 2; have hcz12_0 : w9.cell? ⟨gb728, 0, none⟩ = some (.int .i64 a2_0) := (blk_cell BK728.out 0).trans rfl; have hcz12_1 : w9.cell? ⟨gb728, 1, none⟩ = some (.int .i64 a2_1) := (blk_cell BK728.out 1).trans rfl; have hcz12_2 : w9.cell? ⟨gb728, 2, none⟩ = some (.int .i64 a2_2) := (blk_cell BK728.out 2).trans rfl; have hfz12_0 := blk_frozen BK728.out 0; have hfz12_1 := blk_frozen BK728.out 1; have hfz12_2 := blk_frozen BK728.out 2) | (go_at_call 95; (with_reducible refine (spec_l01Power.calls k a0 (wrap64 ((ji4) - a1_2)) t729 _ A5.out).mono ?_); rintro e w' ⟨rfl, ⟨nd, rfl⟩⟩; (try first | exact ⟨rfl, _, World.drewN_drewN _ _ _⟩ | exact ⟨rfl, _, Eq.trans (World.drewN_drewN _ _ _) (congrArg (World.drewN _) (Nat.add_assoc _ _ _))⟩)) | (go_at_call 95; (with_reducible refine (spec_l01Power.calls k a0 (wrap64 ((ji4) - a2_2)) t730 _ A6.out).mono ?_); rintro e w' ⟨rfl, ⟨nd, rfl⟩⟩; (try first | exact ⟨rfl, _, World.drewN_drewN _ _ _⟩ | exact ⟨rfl, _, Eq.trans (World.drewN_drewN _ _ _) (congrArg (World.drewN _) (Nat.add_assoc _ _ _))⟩))); try go_wp2_with (first | ((with_reducible refine gate_dst (N := 4) rfl ?_); refine box_event ?hg (N := 4) ?hd (cs := #[.int .i64 a1_0, .int .i64 a1_1, .int .i64 a1_2]) (t := 55) ?hr ?_; (case hd => rfl); (case hg => rfl); (case hr => first | (go_simp; done) | (go_simp; rfl)); intro gb727 hg w8 hbox hb; have n0_ := Aside0.mk (below_step blA hb); have n1_ := Aside0.mk (hbox); have n2_ := Aside0.mk (szA hg blA); have n3_ := Aside0.mk (szA hg blA); clear HB; have HB := n0_; have BK727 := n1_; have GW727 := n2_; have GE727 := n3_; clear n0_ n1_ n2_ n3_; clear hb hbox hg) | ((with_reducible refine gate_dst (N := 5) rfl ?_); refine box_event ?hg (N := 5) ?hd (cs := #[.int .i64 a2_0, .int .i64 a2_1, .int .i64 a2_2]) (t := 55) ?hr ?_; (case hd => rfl); (case hg => rfl); (case hr => first | (go_simp; done) | (go_simp; rfl)); intro gb728 hg w9 hbox hb; have n0_ := Aside0.mk (blk_below (bkA BK727) hb); have n1_ := Aside0.mk (below_step blA hb); have n2_ := Aside0.mk (hbox); have n3_ := Aside0.mk (szA hg blA); have n4_ := Aside0.mk (szA hg blA); have n5_ := Aside0.mk (neA hg (bkA BK727)); have n6_ := Aside0.mk (neB hg (bkA BK727)); clear BK727; clear HB; have BK727 := n0_; have HB := n1_; have BK728 := n2_; have GW728 := n3_; have GE728 := n4_; have NB727_728 := n5_; have NB728_727 := n6_; clear n0_ n1_ n2_ n3_ n4_ n5_ n6_; clear hb hbox hg; have hnb10 := NB727_728.out; have hnc10 := NB728_727.out; have hcz11_0 : w9.cell? ⟨gb727, 0, none⟩ = some (.int .i64 a1_0) := (blk_cell BK727.out 0).trans rfl; have hcz11_1 : w9.cell? ⟨gb727, 1, none⟩ = some (.int .i64 a1_1) := (blk_cell BK727.out 1).trans rfl; have hcz11_2 : w9.cell? ⟨gb727, 2, none⟩ = some (.int .i64 a1_2) := (blk_cell BK727.out 2).trans rfl; have hfz11_0 := blk_frozen BK727.out 0; have hfz11_1 := blk_frozen BK727.out 1; have hfz11_2 := blk_frozen BK727.out 2; have hcz12_0 : w9.cell? ⟨gb728, 0, none⟩ = some (.int .i64 a2_0) := (blk_cell BK728.out 0).trans rfl; have hcz12_1 : w9.cell? ⟨gb728, 1, none⟩ = some (.int .i64 a2_1) := (blk_cell BK728.out 1).trans rfl; have hcz12_2 : w9.cell? ⟨gb728, 2, none⟩ = some (.int .i64 a2_2) := (blk_cell BK728.out 2).trans rfl; have hfz12_0 := blk_frozen BK728.out 0; have hfz12_1 := blk_frozen BK728.out 1; have hfz12_2 := blk_frozen BK728.out 2) | (go_at_call 95; (with_reducible refine (spec_l01Power.calls k a0 (wrap64 ((ji4) - a1_2)) t729 _ A5.out).mono ?_); rintro e w' ⟨rfl, ⟨nd, rfl⟩⟩; (try first | exact ⟨rfl, _, World.drewN_drewN _ _ _⟩ | exact ⟨rfl, _, Eq.trans (World.drewN_drewN _ _ _) (congrArg (World.drewN _) (Nat.add_assoc _ _ _))⟩)) | (go_at_call 95; (with_reducible refine (spec_l01Power.calls k a0 (wrap64 ((ji4) - a2_2)) t730 _ A6.out).mono ?_); rintro e w' ⟨rfl, ⟨nd, rfl⟩⟩; (try first | exact ⟨rfl, _, World.drewN_drewN _ _ _⟩ | exact ⟨rfl, _, Eq.trans (World.drewN_drewN _ _ _) (congrArg (World.drewN _) (Nat.add_assoc _ _ _))⟩))))
    go_ret2
    exact ⟨by first | rfl | (simp [errW_none, errW_some] <;> rfl) | (simp only [← hji4]; first | rfl | (simp [errW_none, errW_some] <;> rfl)) | (simp [*, errW_none, errW_some] <;> rfl), blA⟩
  · rw [if_neg c7] at H
    have c7b0 : ((wrap64 ((wrap64 (a1_1 * t729)) - (wrap64 (a2_1 * t730)))) == 0) = false := beq_eq_false_iff_ne.mpr c7
    have c7b1 : ((wrap64 ((wrap64 (a1_1 * t729)) - (wrap64 (a2_1 * t730)))) != 0) = true := bne_iff_ne.mpr c7
    replace H := Option.bind_eq_some_iff.mp H
    obtain ⟨t731, A130, H⟩ := H
    replace H : (some (wrap64 (t731 - (ji4)), true)) = some (r1, r2) := H
    have A13 := Aside0.mk A130
    clear A130
    simp only [Option.some.injEq, Prod.mk.injEq] at H
    obtain ⟨rfl, rfl⟩ := H
    go_enter Try.func111, Try.ntmps111
    go_wp2_with (first | ((with_reducible refine gate_dst (N := 4) rfl ?_); refine box_event ?hg (N := 4) ?hd (cs := #[.int .i64 a1_0, .int .i64 a1_1, .int .i64 a1_2]) (t := 55) ?hr ?_; (case hd => rfl); (case hg => rfl); (case hr => first | (go_simp; done) | (go_simp; rfl)); intro gb727 hg w14 hbox hb; have n0_ := Aside0.mk (below_step blA hb); have n1_ := Aside0.mk (hbox); have n2_ := Aside0.mk (szA hg blA); have n3_ := Aside0.mk (szA hg blA); clear HB; have HB := n0_; have BK727 := n1_; have GW727 := n2_; have GE727 := n3_; clear n0_ n1_ n2_ n3_; clear hb hbox hg) | ((with_reducible refine gate_dst (N := 5) rfl ?_); refine box_event ?hg (N := 5) ?hd (cs := #[.int .i64 a2_0, .int .i64 a2_1, .int .i64 a2_2]) (t := 55) ?hr ?_; (case hd => rfl); (case hg => rfl); (case hr => first | (go_simp; done) | (go_simp; rfl)); intro gb728 hg w15 hbox hb; have n0_ := Aside0.mk (blk_below (bkA BK727) hb); have n1_ := Aside0.mk (below_step blA hb); have n2_ := Aside0.mk (hbox); have n3_ := Aside0.mk (szA hg blA); have n4_ := Aside0.mk (szA hg blA); have n5_ := Aside0.mk (neA hg (bkA BK727)); have n6_ := Aside0.mk (neB hg (bkA BK727)); clear BK727; clear HB; have BK727 := n0_; have HB := n1_; have BK728 := n2_; have GW728 := n3_; have GE728 := n4_; have NB727_728 := n5_; have NB728_727 := n6_; clear n0_ n1_ n2_ n3_ n4_ n5_ n6_; clear hb hbox hg; have hnb16 := NB727_728.out; have hnc16 := NB728_727.out; have hcz17_0 : w15.cell? ⟨gb727, 0, none⟩ = some (.int .i64 a1_0) := (blk_cell BK727.out 0).trans rfl; have hcz17_1 : w15.cell? ⟨gb727, 1, none⟩ = some (.int .i64 a1_1) := (blk_cell BK727.out 1).trans rfl; have hcz17_2 : w15.cell? ⟨gb727, 2, none⟩ = some (.int .i64 a1_2) := (blk_cell BK727.out 2).trans rfl; have hfz17_0 := blk_frozen BK727.out 0; have hfz17_1 := blk_frozen BK727.out 1; have hfz17_2 := blk_frozen BK727.out 2; have hcz18_0 : w15.cell? ⟨gb728, 0, none⟩ = some (.int .i64 a2_0) := (blk_cell BK728.out 0).trans rfl; have hcz18_1 : w15.cell? ⟨gb728, 1, none⟩ = some (.int .i64 a2_1) := (blk_cell BK728.out 1).trans rfl; have hcz18_2 : w15.cell? ⟨gb728, 2, none⟩ = some (.int .i64 a2_2) := (blk_cell BK728.out 2).trans rfl; have hfz18_0 := blk_frozen BK728.out 0; have hfz18_1 := blk_frozen BK728.out 1; have hfz18_2 := blk_frozen BK728.out 2) | (go_at_call 95; (with_reducible refine (spec_l01Power.calls k a0 (wrap64 ((ji4) - a1_2)) t729 _ A5.out).mono ?_); rintro e w' ⟨rfl, ⟨nd, rfl⟩⟩; (try first | exact ⟨rfl, _, World.drewN_drewN _ _ _⟩ | exact ⟨rfl, _, Eq.trans (World.drewN_drewN _ _ _) (congrArg (World.drewN _) (Nat.add_assoc _ _ _))⟩)) | (go_at_call 95; (with_reducible refine (spec_l01Power.calls k a0 (wrap64 ((ji4) - a2_2)) t730 _ A6.out).mono ?_); rintro e w' ⟨rfl, ⟨nd, rfl⟩⟩; (try first | exact ⟨rfl, _, World.drewN_drewN _ _ _⟩ | exact ⟨rfl, _, Eq.trans (World.drewN_drewN _ _ _) (congrArg (World.drewN _) (Nat.add_assoc _ _ _))⟩)) | (go_at_call 89; (with_reducible refine (spec_l01Val.calls k a0 (wrap64 ((wrap64 (a1_1 * t729)) - (wrap64 (a2_1 * t730)))) t731 _ A13.out).mono ?_); rintro e w' ⟨rfl, ⟨nd, rfl⟩⟩; (try first | exact ⟨rfl, _, World.drewN_drewN _ _ _⟩ | exact ⟨rfl, _, Eq.trans (World.drewN_drewN _ _ _) (congrArg (World.drewN _) (Nat.add_assoc _ _ _))⟩)))
    repeat (go_quiet (first | ((with_reducible refine gate_dst (N := 4) rfl ?_); refine box_event ?hg (N := 4) ?hd (cs := #[.int .i64 a1_0, .int .i64 a1_1, .int .i64 a1_2]) (t := 55) ?hr ?_; (case hd => rfl); (case hg => rfl); (case hr => first | (go_simp; done) | (go_simp; rfl)); intro gb727 hg w14 hbox hb; have n0_ := Aside0.mk (below_step blA hb); have n1_ := Aside0.mk (hbox); have n2_ := Aside0.mk (szA hg blA); have n3_ := Aside0.mk (szA hg blA); clear HB; have HB := n0_; have BK727 := n1_; have GW727 := n2_; have GE727 := n3_; clear n0_ n1_ n2_ n3_; clear hb hbox hg) | ((with_reducible refine gate_dst (N := 5) rfl ?_); refine box_event ?hg (N := 5) ?hd (cs := #[.int .i64 a2_0, .int .i64 a2_1, .int .i64 a2_2]) (t := 55) ?hr ?_; (case hd => rfl); (case hg => rfl); (case hr => first | (go_simp; done) | (go_simp; rfl)); intro gb728 hg w15 hbox hb; have n0_ := Aside0.mk (blk_below (bkA BK727) hb); have n1_ := Aside0.mk (below_step blA hb); have n2_ := Aside0.mk (hbox); have n3_ := Aside0.mk (szA hg blA); have n4_ := Aside0.mk (szA hg blA); have n5_ := Aside0.mk (neA hg (bkA BK727)); have n6_ := Aside0.mk (neB hg (bkA BK727)); clear BK727; clear HB; have BK727 := n0_; have HB := n1_; have BK728 := n2_; have GW728 := n3_; have GE728 := n4_; have NB727_728 := n5_; have NB728_727 := n6_; clear n0_ n1_ n2_ n3_ n4_ n5_ n6_; clear hb hbox hg; have hnb16 := NB727_728.out; have hnc16 := NB728_727.out; have hcz17_0 : w15.cell? ⟨gb727, 0, none⟩ = some (.int .i64 a1_0) := (blk_cell BK727.out 0).trans rfl; have hcz17_1 : w15.cell? ⟨gb727, 1, none⟩ = some (.int .i64 a1_1) := (blk_cell BK727.out 1).trans rfl; have hcz17_2 : w15.cell? ⟨gb727, 2, none⟩ = some (.int .i64 a1_2) := (blk_cell BK727.out 2).trans rfl; have hfz17_0 := blk_frozen BK727.out 0; have hfz17_1 := blk_frozen BK727.out 1; have hfz17_2 := blk_frozen BK727.out 2; have hcz18_0 : w15.cell? ⟨gb728, 0, none⟩ = some (.int .i64 a2_0) := (blk_cell BK728.out 0).trans rfl; have hcz18_1 : w15.cell? ⟨gb728, 1, none⟩ = some (.int .i64 a2_1) := (blk_cell BK728.out 1).trans rfl; have hcz18_2 : w15.cell? ⟨gb728, 2, none⟩ = some (.int .i64 a2_2) := (blk_cell BK728.out 2).trans rfl; have hfz18_0 := blk_frozen BK728.out 0; have hfz18_1 := blk_frozen BK728.out 1; have hfz18_2 := blk_frozen BK728.out 2) | (go_at_call 95; (with_reducible refine (spec_l01Power.calls k a0 (wrap64 ((ji4) - a1_2)) t729 _ A5.out).mono ?_); rintro e w' ⟨rfl, ⟨nd, rfl⟩⟩; (try first | exact ⟨rfl, _, World.drewN_drewN _ _ _⟩ | exact ⟨rfl, _, Eq.trans (World.drewN_drewN _ _ _) (congrArg (World.drewN _) (Nat.add_assoc _ _ _))⟩)) | (go_at_call 95; (with_reducible refine (spec_l01Power.calls k a0 (wrap64 ((ji4) - a2_2)) t730 _ A6.out).mono ?_); rintro e w' ⟨rfl, ⟨nd, rfl⟩⟩; (try first | exact ⟨rfl, _, World.drewN_drewN _ _ _⟩ | exact ⟨rfl, _, Eq.trans (World.drewN_drewN _ _ _) (congrArg (World.drewN _) (Nat.add_assoc _ _ _))⟩)) | (go_at_call 89; (with_reducible refine (spec_l01Val.calls k a0 (wrap64 ((wrap64 (a1_1 * t729)) - (wrap64 (a2_1 * t730)))) t731 _ A13.out).mono ?_); rintro e w' ⟨rfl, ⟨nd, rfl⟩⟩; (try first | exact ⟨rfl, _, World.drewN_drewN _ _ _⟩ | exact ⟨rfl, _, Eq.trans (World.drewN_drewN _ _ _) (congrArg (World.drewN _) (Nat.add_assoc _ _ _))⟩))); try go_wp2_with (first | ((with_reducible refine gate_dst (N := 4) rfl ?_); refine box_event ?hg (N := 4) ?hd (cs := #[.int .i64 a1_0, .int .i64 a1_1, .int .i64 a1_2]) (t := 55) ?hr ?_; (case hd => rfl); (case hg => rfl); (case hr => first | (go_simp; done) | (go_simp; rfl)); intro gb727 hg w14 hbox hb; have n0_ := Aside0.mk (below_step blA hb); have n1_ := Aside0.mk (hbox); have n2_ := Aside0.mk (szA hg blA); have n3_ := Aside0.mk (szA hg blA); clear HB; have HB := n0_; have BK727 := n1_; have GW727 := n2_; have GE727 := n3_; clear n0_ n1_ n2_ n3_; clear hb hbox hg) | ((with_reducible refine gate_dst (N := 5) rfl ?_); refine box_event ?hg (N := 5) ?hd (cs := #[.int .i64 a2_0, .int .i64 a2_1, .int .i64 a2_2]) (t := 55) ?hr ?_; (case hd => rfl); (case hg => rfl); (case hr => first | (go_simp; done) | (go_simp; rfl)); intro gb728 hg w15 hbox hb; have n0_ := Aside0.mk (blk_below (bkA BK727) hb); have n1_ := Aside0.mk (below_step blA hb); have n2_ := Aside0.mk (hbox); have n3_ := Aside0.mk (szA hg blA); have n4_ := Aside0.mk (szA hg blA); have n5_ := Aside0.mk (neA hg (bkA BK727)); have n6_ := Aside0.mk (neB hg (bkA BK727)); clear BK727; clear HB; have BK727 := n0_; have HB := n1_; have BK728 := n2_; have GW728 := n3_; have GE728 := n4_; have NB727_728 := n5_; have NB728_727 := n6_; clear n0_ n1_ n2_ n3_ n4_ n5_ n6_; clear hb hbox hg; have hnb16 := NB727_728.out; have hnc16 := NB728_727.out; have hcz17_0 : w15.cell? ⟨gb727, 0, none⟩ = some (.int .i64 a1_0) := (blk_cell BK727.out 0).trans rfl; have hcz17_1 : w15.cell? ⟨gb727, 1, none⟩ = some (.int .i64 a1_1) := (blk_cell BK727.out 1).trans rfl; have hcz17_2 : w15.cell? ⟨gb727, 2, none⟩ = some (.int .i64 a1_2) := (blk_cell BK727.out 2).trans rfl; have hfz17_0 := blk_frozen BK727.out 0; have hfz17_1 := blk_frozen BK727.out 1; have hfz17_2 := blk_frozen BK727.out 2; have hcz18_0 : w15.cell? ⟨gb728, 0, none⟩ = some (.int .i64 a2_0) := (blk_cell BK728.out 0).trans rfl; have hcz18_1 : w15.cell? ⟨gb728, 1, none⟩ = some (.int .i64 a2_1) := (blk_cell BK728.out 1).trans rfl; have hcz18_2 : w15.cell? ⟨gb728, 2, none⟩ = some (.int .i64 a2_2) := (blk_cell BK728.out 2).trans rfl; have hfz18_0 := blk_frozen BK728.out 0; have hfz18_1 := blk_frozen BK728.out 1; have hfz18_2 := blk_frozen BK728.out 2) | (go_at_call 95; (with_reducible refine (spec_l01Power.calls k a0 (wrap64 ((ji4) - a1_2)) t729 _ A5.out).mono ?_); rintro e w' ⟨rfl, ⟨nd, rfl⟩⟩; (try first | exact ⟨rfl, _, World.drewN_drewN _ _ _⟩ | exact ⟨rfl, _, Eq.trans (World.drewN_drewN _ _ _) (congrArg (World.drewN _) (Nat.add_assoc _ _ _))⟩)) | (go_at_call 95; (with_reducible refine (spec_l01Power.calls k a0 (wrap64 ((ji4) - a2_2)) t730 _ A6.out).mono ?_); rintro e w' ⟨rfl, ⟨nd, rfl⟩⟩; (try first | exact ⟨rfl, _, World.drewN_drewN _ _ _⟩ | exact ⟨rfl, _, Eq.trans (World.drewN_drewN _ _ _) (congrArg (World.drewN _) (Nat.add_assoc _ _ _))⟩)) | (go_at_call 89; (with_reducible refine (spec_l01Val.calls k a0 (wrap64 ((wrap64 (a1_1 * t729)) - (wrap64 (a2_1 * t730)))) t731 _ A13.out).mono ?_); rintro e w' ⟨rfl, ⟨nd, rfl⟩⟩; (try first | exact ⟨rfl, _, World.drewN_drewN _ _ _⟩ | exact ⟨rfl, _, Eq.trans (World.drewN_drewN _ _ _) (congrArg (World.drewN _) (Nat.add_assoc _ _ _))⟩))))
    go_ret2
    exact ⟨by first | rfl | (simp [errW_none, errW_some] <;> rfl) | (simp only [← hji4]; first | rfl | (simp [errW_none, errW_some] <;> rfl)) | (simp [*, errW_none, errW_some] <;> rfl), blA⟩
/-! ### spec_l02Join: function 101 -/
def spec_l02Join.f (k : Nat) (a0 : Int) (a1_0 : Int) (a1_1 : Int) (a1_2 : Int) (a2_0 : Int) (a2_1 : Int) (a2_2 : Int) : Option (Int) := (spec_l02Valuation.f k a0 a1_0 a1_1 a1_2 a2_0 a2_1 a2_2).bind fun bt734 => (if bt734.2 = true then (some (mn (mn a1_0 a2_0) bt734.1)) else (some (mn a1_0 a2_0)))
theorem spec_l02Join.mono : ∀ a0 a1 a2 a3 a4 a5 a6 k, LeO (spec_l02Join.f k a0 a1 a2 a3 a4 a5 a6) (spec_l02Join.f (k + 1) a0 a1 a2 a3 a4 a5 a6) := by
  intro a0 a1 a2 a3 a4 a5 a6 k
  unfold spec_l02Join.f
  repeat' first
      | (with_reducible exact spec_l02Valuation.mono _ _ _ _ _ _ _ _)
      | (with_reducible exact LeO.refl _)
      | (with_reducible exact LeO.none _)
      | (with_reducible refine LeO.ite ?_ ?_)
      | (with_reducible refine LeO.bind ?_ (fun _ => ?_))
      | exact spec_l02Valuation.mono _ _ _ _ _ _ _ _
      | exact LeO.none _
      | refine LeO.ite ?_ ?_
      | refine LeO.bind ?_ (fun _ => ?_)
set_option maxHeartbeats 8000000 in
set_option maxRecDepth 100000 in
theorem spec_l02Join.calls (k : Nat) (a0 : Int) (a1_0 : Int) (a1_1 : Int) (a1_2 : Int) (a2_0 : Int) (a2_1 : Int) (a2_2 : Int) (r : Int) (w : World) (h : spec_l02Join.f k a0 a1_0 a1_1 a1_2 a2_0 a2_1 a2_2 = some r) :
    Calls Try.prog 101 #[.int .i64 a0, .agg #[.int .i64 a1_0, .int .i64 a1_1, .int .i64 a1_2], .agg #[.int .i64 a2_0, .int .i64 a2_1, .int .i64 a2_2]] w fun e w' => e = .returned (.int .i64 r) ∧ Below w.heap.size w w' := by
  have hu55 := Try.underlying55
  have HB := Aside0.mk (Below.refl w.heap.size w)
  have H : ((spec_l02Valuation.f k a0 a1_0 a1_1 a1_2 a2_0 a2_1 a2_2).bind fun bt734 => (if bt734.2 = true then (some (mn (mn a1_0 a2_0) bt734.1)) else (some (mn a1_0 a2_0)))) = some r := h
  clear h
  obtain ⟨ji4, hji4⟩ : ∃ j_ : Int, (mn a1_0 a2_0) = j_ := ⟨_, rfl⟩
  replace H : ((spec_l02Valuation.f k a0 a1_0 a1_1 a1_2 a2_0 a2_1 a2_2).bind fun bt734 => (if bt734.2 = true then (some (mn (ji4) bt734.1)) else (some ji4))) = some r := by first | (rw [hji4] at H; exact H) | (simp only [hji4] at H ⊢; exact H)
  have hji4_ : (if a2_0 < a1_0 then a2_0 else a1_0) = ji4 := hji4
  replace H := Option.bind_eq_some_iff.mp H
  obtain ⟨⟨t734, t735⟩, A50, H⟩ := H
  replace H : (if t735 = true then (some (mn (ji4) t734)) else (some ji4)) = some r := H
  have A5 := Aside0.mk A50
  clear A50
  by_cases c6 : t735 = true
  · subst c6
    have H1 : (some (mn (ji4) t734)) = some r := by rw [if_pos rfl] at H; exact H
    clear H
    have H := H1
    clear H1
    obtain ⟨ji7, hji7⟩ : ∃ j_ : Int, (mn (ji4) t734) = j_ := ⟨_, rfl⟩
    replace H : (some ji7) = some r := by first | (rw [hji7] at H; exact H) | (simp only [hji7] at H ⊢; exact H)
    (try rw [hji7] at A5)
    have hji7_ : (if t734 < (ji4) then t734 else (ji4)) = ji7 := hji7
    obtain rfl := Option.some.inj H
    go_enter Try.func101, Try.ntmps101
    go_wp2_with (first | ((with_reducible refine gate_dst (N := 4) rfl ?_); refine box_event ?hg (N := 4) ?hd (cs := #[.int .i64 a1_0, .int .i64 a1_1, .int .i64 a1_2]) (t := 55) ?hr ?_; (case hd => rfl); (case hg => rfl); (case hr => first | (go_simp; done) | (go_simp; rfl)); intro gb732 hg w8 hbox hb; have n0_ := Aside0.mk (below_step blA hb); have n1_ := Aside0.mk (hbox); have n2_ := Aside0.mk (szA hg blA); have n3_ := Aside0.mk (szA hg blA); clear HB; have HB := n0_; have BK732 := n1_; have GW732 := n2_; have GE732 := n3_; clear n0_ n1_ n2_ n3_; clear hb hbox hg) | ((with_reducible refine gate_dst (N := 5) rfl ?_); refine box_event ?hg (N := 5) ?hd (cs := #[.int .i64 a2_0, .int .i64 a2_1, .int .i64 a2_2]) (t := 55) ?hr ?_; (case hd => rfl); (case hg => rfl); (case hr => first | (go_simp; done) | (go_simp; rfl)); intro gb733 hg w9 hbox hb; have n0_ := Aside0.mk (blk_below (bkA BK732) hb); have n1_ := Aside0.mk (below_step blA hb); have n2_ := Aside0.mk (hbox); have n3_ := Aside0.mk (szA hg blA); have n4_ := Aside0.mk (szA hg blA); have n5_ := Aside0.mk (neA hg (bkA BK732)); have n6_ := Aside0.mk (neB hg (bkA BK732)); clear BK732; clear HB; have BK732 := n0_; have HB := n1_; have BK733 := n2_; have GW733 := n3_; have GE733 := n4_; have NB732_733 := n5_; have NB733_732 := n6_; clear n0_ n1_ n2_ n3_ n4_ n5_ n6_; clear hb hbox hg; have hnb10 := NB732_733.out; have hnc10 := NB733_732.out; have hcz11_0 : w9.cell? ⟨gb732, 0, none⟩ = some (.int .i64 a1_0) := (blk_cell BK732.out 0).trans rfl; have hcz11_1 : w9.cell? ⟨gb732, 1, none⟩ = some (.int .i64 a1_1) := (blk_cell BK732.out 1).trans rfl; have hcz11_2 : w9.cell? ⟨gb732, 2, none⟩ = some (.int .i64 a1_2) := (blk_cell BK732.out 2).trans rfl; have hfz11_0 := blk_frozen BK732.out 0; have hfz11_1 := blk_frozen BK732.out 1; have hfz11_2 := blk_frozen BK732.out 2; have hcz12_0 : w9.cell? ⟨gb733, 0, none⟩ = some (.int .i64 a2_0) := (blk_cell BK733.out 0).trans rfl; have hcz12_1 : w9.cell? ⟨gb733, 1, none⟩ = some (.int .i64 a2_1) := (blk_cell BK733.out 1).trans rfl; have hcz12_2 : w9.cell? ⟨gb733, 2, none⟩ = some (.int .i64 a2_2) := (blk_cell BK733.out 2).trans rfl; have hfz12_0 := blk_frozen BK733.out 0; have hfz12_1 := blk_frozen BK733.out 1; have hfz12_2 := blk_frozen BK733.out 2) | ((with_reducible refine gate_callee (f := 111) rfl ?_); refine goesL_ (some 19) rfl rfl Try.func111 (by kernel_rfl) rfl #[.int .i64 a0, .agg #[.int .i64 a1_0, .int .i64 a1_1, .int .i64 a1_2], .agg #[.int .i64 a2_0, .int .i64 a2_1, .int .i64 a2_2]] rfl (by (try simp only [List.map_toArray, List.map_cons, List.map_nil]); first | done | rfl | (simp only [List.length_drop, List.length_take]; rfl)) ?_; (with_reducible refine (spec_l02Valuation.calls k a0 a1_0 a1_1 a1_2 a2_0 a2_1 a2_2 t734 true _ A5.out).mono ?_); rintro e w13 ⟨rfl, hb⟩; refine ⟨_, rfl, ?_⟩; have n0_ := Aside0.mk (blk_below (bkA BK732) hb); have n1_ := Aside0.mk (blk_below (bkA BK733) hb); have n2_ := Aside0.mk (below_step blA hb); clear BK732; clear BK733; clear HB; have BK732 := n0_; have BK733 := n1_; have HB := n2_; clear n0_ n1_ n2_; (try clear hb); (try clear hb2); (try clear hk); (try clear hi)))
    go_ret
    exact ⟨by first | rfl | (simp [errW_none, errW_some] <;> rfl) | (simp only [← hji4, ← hji7]; first | rfl | (simp [errW_none, errW_some] <;> rfl)) | (simp [*, errW_none, errW_some] <;> rfl), blA⟩
  · replace c6 := Bool.eq_false_iff.mpr c6
    subst c6
    have H1 : (some ji4) = some r := by rw [if_neg (show ¬ (false = true) by decide)] at H; exact H
    clear H
    have H := H1
    clear H1
    obtain rfl := Option.some.inj H
    go_enter Try.func101, Try.ntmps101
    go_wp2_with (first | ((with_reducible refine gate_dst (N := 4) rfl ?_); refine box_event ?hg (N := 4) ?hd (cs := #[.int .i64 a1_0, .int .i64 a1_1, .int .i64 a1_2]) (t := 55) ?hr ?_; (case hd => rfl); (case hg => rfl); (case hr => first | (go_simp; done) | (go_simp; rfl)); intro gb732 hg w14 hbox hb; have n0_ := Aside0.mk (below_step blA hb); have n1_ := Aside0.mk (hbox); have n2_ := Aside0.mk (szA hg blA); have n3_ := Aside0.mk (szA hg blA); clear HB; have HB := n0_; have BK732 := n1_; have GW732 := n2_; have GE732 := n3_; clear n0_ n1_ n2_ n3_; clear hb hbox hg) | ((with_reducible refine gate_dst (N := 5) rfl ?_); refine box_event ?hg (N := 5) ?hd (cs := #[.int .i64 a2_0, .int .i64 a2_1, .int .i64 a2_2]) (t := 55) ?hr ?_; (case hd => rfl); (case hg => rfl); (case hr => first | (go_simp; done) | (go_simp; rfl)); intro gb733 hg w15 hbox hb; have n0_ := Aside0.mk (blk_below (bkA BK732) hb); have n1_ := Aside0.mk (below_step blA hb); have n2_ := Aside0.mk (hbox); have n3_ := Aside0.mk (szA hg blA); have n4_ := Aside0.mk (szA hg blA); have n5_ := Aside0.mk (neA hg (bkA BK732)); have n6_ := Aside0.mk (neB hg (bkA BK732)); clear BK732; clear HB; have BK732 := n0_; have HB := n1_; have BK733 := n2_; have GW733 := n3_; have GE733 := n4_; have NB732_733 := n5_; have NB733_732 := n6_; clear n0_ n1_ n2_ n3_ n4_ n5_ n6_; clear hb hbox hg; have hnb16 := NB732_733.out; have hnc16 := NB733_732.out; have hcz17_0 : w15.cell? ⟨gb732, 0, none⟩ = some (.int .i64 a1_0) := (blk_cell BK732.out 0).trans rfl; have hcz17_1 : w15.cell? ⟨gb732, 1, none⟩ = some (.int .i64 a1_1) := (blk_cell BK732.out 1).trans rfl; have hcz17_2 : w15.cell? ⟨gb732, 2, none⟩ = some (.int .i64 a1_2) := (blk_cell BK732.out 2).trans rfl; have hfz17_0 := blk_frozen BK732.out 0; have hfz17_1 := blk_frozen BK732.out 1; have hfz17_2 := blk_frozen BK732.out 2; have hcz18_0 : w15.cell? ⟨gb733, 0, none⟩ = some (.int .i64 a2_0) := (blk_cell BK733.out 0).trans rfl; have hcz18_1 : w15.cell? ⟨gb733, 1, none⟩ = some (.int .i64 a2_1) := (blk_cell BK733.out 1).trans rfl; have hcz18_2 : w15.cell? ⟨gb733, 2, none⟩ = some (.int .i64 a2_2) := (blk_cell BK733.out 2).trans rfl; have hfz18_0 := blk_frozen BK733.out 0; have hfz18_1 := blk_frozen BK733.out 1; have hfz18_2 := blk_frozen BK733.out 2) | ((with_reducible refine gate_callee (f := 111) rfl ?_); refine goesL_ (some 19) rfl rfl Try.func111 (by kernel_rfl) rfl #[.int .i64 a0, .agg #[.int .i64 a1_0, .int .i64 a1_1, .int .i64 a1_2], .agg #[.int .i64 a2_0, .int .i64 a2_1, .int .i64 a2_2]] rfl (by (try simp only [List.map_toArray, List.map_cons, List.map_nil]); first | done | rfl | (simp only [List.length_drop, List.length_take]; rfl)) ?_; (with_reducible refine (spec_l02Valuation.calls k a0 a1_0 a1_1 a1_2 a2_0 a2_1 a2_2 t734 false _ A5.out).mono ?_); rintro e w19 ⟨rfl, hb⟩; refine ⟨_, rfl, ?_⟩; have n0_ := Aside0.mk (blk_below (bkA BK732) hb); have n1_ := Aside0.mk (blk_below (bkA BK733) hb); have n2_ := Aside0.mk (below_step blA hb); clear BK732; clear BK733; clear HB; have BK732 := n0_; have BK733 := n1_; have HB := n2_; clear n0_ n1_ n2_; (try clear hb); (try clear hb2); (try clear hk); (try clear hi)))
    go_ret
    exact ⟨by first | rfl | (simp [errW_none, errW_some] <;> rfl) | (simp only [← hji4]; first | rfl | (simp [errW_none, errW_some] <;> rfl)) | (simp [*, errW_none, errW_some] <;> rfl), blA⟩
/-! ### impl_joinLevel: function 102 -/
def impl_joinLevel.f (k : Nat) (a0 : Int) (a1_0 : Int) (a1_1 : Int) (a1_2 : Int) (a2_0 : Int) (a2_1 : Int) (a2_2 : Int) : Option (Int) := (impl_mark.f k a0 a1_0 a1_1 a1_2).bind fun t753 => ((impl_mark.f k a0 a2_0 a2_1 a2_2).bind fun t754 => ((impl_valuation.f k a0 (wrap64 (t753 - t754))).bind fun t755 => (some (mn (mn a1_0 a2_0) (wrap64 (t755 - 6))))))
theorem impl_joinLevel.mono : ∀ a0 a1 a2 a3 a4 a5 a6 k, LeO (impl_joinLevel.f k a0 a1 a2 a3 a4 a5 a6) (impl_joinLevel.f (k + 1) a0 a1 a2 a3 a4 a5 a6) := by
  intro a0 a1 a2 a3 a4 a5 a6 k
  unfold impl_joinLevel.f
  repeat' first
      | (with_reducible exact impl_mark.mono _ _ _ _ _)
      | (with_reducible exact impl_valuation.mono _ _ _)
      | (with_reducible exact LeO.refl _)
      | (with_reducible exact LeO.none _)
      | (with_reducible refine LeO.ite ?_ ?_)
      | (with_reducible refine LeO.bind ?_ (fun _ => ?_))
      | exact impl_mark.mono _ _ _ _ _
      | exact impl_valuation.mono _ _ _
      | exact LeO.none _
      | refine LeO.ite ?_ ?_
      | refine LeO.bind ?_ (fun _ => ?_)
def impl_joinLevel.T1 : Bool × List (List Nat × List Nat) := (true, [([], []), ([0], [0]), ([], []), ([2], [2]), ([], []), ([], []), ([], []), ([5, 6], [5, 6]), ([], []), ([], []), ([8, 9, 7], [8, 9]), ([7, 10], [7, 10]), ([4, 11, 10], [4, 11]), ([12], [12]), ([1, 3, 13], [1, 3, 13]), ([14, 12, 0, 1, 2, 3, 4, 5, 6, 7, 8, 9, 10, 11, 12, 13, 14], [14])])
def impl_joinLevel.B1 : List Nat := [0, 1, 0, 4, 0, 0, 0, 96, 0, 0, 992, 2016, 4080, 8176, 16383, 32767]
theorem impl_joinLevel.tab1 : rtab .any (opsOf Try.f102 1) = impl_joinLevel.T1 := by kernel_rfl
theorem impl_joinLevel.bits1 : waitsOk impl_joinLevel.T1.2 impl_joinLevel.B1 = true := by kernel_rfl
set_option maxHeartbeats 8000000 in
set_option maxRecDepth 100000 in
theorem impl_joinLevel.calls (k : Nat) (a0 : Int) (a1_0 : Int) (a1_1 : Int) (a1_2 : Int) (a2_0 : Int) (a2_1 : Int) (a2_2 : Int) (r : Int) (w : World) (h : impl_joinLevel.f k a0 a1_0 a1_1 a1_2 a2_0 a2_1 a2_2 = some r) :
    Calls Try.prog 102 #[.int .i64 a0, .agg #[.int .i64 a1_0, .int .i64 a1_1, .int .i64 a1_2], .agg #[.int .i64 a2_0, .int .i64 a2_1, .int .i64 a2_2]] w fun e w' => e = .returned (.int .i64 r) ∧ Below w.heap.size w w' := by
  have hu55 := Try.underlying55
  have HB := Aside0.mk (Below.refl w.heap.size w)
  have H : ((impl_mark.f k a0 a1_0 a1_1 a1_2).bind fun t753 => ((impl_mark.f k a0 a2_0 a2_1 a2_2).bind fun t754 => ((impl_valuation.f k a0 (wrap64 (t753 - t754))).bind fun t755 => (some (mn (mn a1_0 a2_0) (wrap64 (t755 - 6))))))) = some r := h
  clear h
  replace H := Option.bind_eq_some_iff.mp H
  obtain ⟨t753, A40, H⟩ := H
  replace H : ((impl_mark.f k a0 a2_0 a2_1 a2_2).bind fun t754 => ((impl_valuation.f k a0 (wrap64 (t753 - t754))).bind fun t755 => (some (mn (mn a1_0 a2_0) (wrap64 (t755 - 6)))))) = some r := H
  have A4 := Aside0.mk A40
  clear A40
  replace H := Option.bind_eq_some_iff.mp H
  obtain ⟨t754, A50, H⟩ := H
  replace H : ((impl_valuation.f k a0 (wrap64 (t753 - t754))).bind fun t755 => (some (mn (mn a1_0 a2_0) (wrap64 (t755 - 6))))) = some r := H
  have A5 := Aside0.mk A50
  clear A50
  replace H := Option.bind_eq_some_iff.mp H
  obtain ⟨t755, A60, H⟩ := H
  replace H : (some (mn (mn a1_0 a2_0) (wrap64 (t755 - 6)))) = some r := H
  have A6 := Aside0.mk A60
  clear A60
  obtain ⟨ji7, hji7⟩ : ∃ j_ : Int, (mn a1_0 a2_0) = j_ := ⟨_, rfl⟩
  replace H : (some (mn (ji7) (wrap64 (t755 - 6)))) = some r := by first | (rw [hji7] at H; exact H) | (simp only [hji7] at H ⊢; exact H)
  (try rw [hji7] at A4)
  (try rw [hji7] at A5)
  (try rw [hji7] at A6)
  have hji7_ : (if a2_0 < a1_0 then a2_0 else a1_0) = ji7 := hji7
  obtain ⟨ji8, hji8⟩ : ∃ j_ : Int, (mn (ji7) (wrap64 (t755 - 6))) = j_ := ⟨_, rfl⟩
  replace H : (some ji8) = some r := by first | (rw [hji8] at H; exact H) | (simp only [hji8] at H ⊢; exact H)
  (try rw [hji8] at A4)
  (try rw [hji8] at A5)
  (try rw [hji8] at A6)
  have hji8_ : (if (wrap64 (t755 - 6)) < (ji7) then (wrap64 (t755 - 6)) else (ji7)) = ji8 := hji8
  obtain rfl := Option.some.inj H
  go_enter Try.func102, Try.ntmps102
  try go_wp2_with (first | ((with_reducible refine gate_dst (N := 4) rfl ?_); refine box_event ?hg (N := 4) ?hd (cs := #[.int .i64 a1_0, .int .i64 a1_1, .int .i64 a1_2]) (t := 55) ?hr ?_; (case hd => rfl); (case hg => rfl); (case hr => first | (go_simp; done) | (go_simp; rfl)); intro gb751 hg w9 hbox hb; have n0_ := Aside0.mk (below_step blA hb); have n1_ := Aside0.mk (hbox); have n2_ := Aside0.mk (szA hg blA); have n3_ := Aside0.mk (szA hg blA); clear HB; have HB := n0_; have BK751 := n1_; have GW751 := n2_; have GE751 := n3_; clear n0_ n1_ n2_ n3_; clear hb hbox hg) | ((with_reducible refine gate_dst (N := 5) rfl ?_); refine box_event ?hg (N := 5) ?hd (cs := #[.int .i64 a2_0, .int .i64 a2_1, .int .i64 a2_2]) (t := 55) ?hr ?_; (case hd => rfl); (case hg => rfl); (case hr => first | (go_simp; done) | (go_simp; rfl)); intro gb752 hg w10 hbox hb; have n0_ := Aside0.mk (blk_below (bkA BK751) hb); have n1_ := Aside0.mk (below_step blA hb); have n2_ := Aside0.mk (hbox); have n3_ := Aside0.mk (szA hg blA); have n4_ := Aside0.mk (szA hg blA); have n5_ := Aside0.mk (neA hg (bkA BK751)); have n6_ := Aside0.mk (neB hg (bkA BK751)); clear BK751; clear HB; have BK751 := n0_; have HB := n1_; have BK752 := n2_; have GW752 := n3_; have GE752 := n4_; have NB751_752 := n5_; have NB752_751 := n6_; clear n0_ n1_ n2_ n3_ n4_ n5_ n6_; clear hb hbox hg))
  have n0_ := Aside0.mk (blk_drew BK751.out)
  have n1_ := Aside0.mk (blk_drew BK752.out)
  have n2_ := Aside0.mk (below_drew1 HB.out)
  clear BK751
  clear BK752
  clear HB
  have BK751 := n0_
  have BK752 := n1_
  have HB := n2_
  clear n0_ n1_ n2_
  refine start_ (n := 16) (S := fun w' => w'.cell? ⟨gb751, 0, none⟩ = some (.int .i64 a1_0) ∧ w'.cell? ⟨gb751, 1, none⟩ = some (.int .i64 a1_1) ∧ w'.cell? ⟨gb751, 2, none⟩ = some (.int .i64 a1_2) ∧ w'.cell? ⟨gb752, 0, none⟩ = some (.int .i64 a2_0) ∧ w'.cell? ⟨gb752, 1, none⟩ = some (.int .i64 a2_1) ∧ w'.cell? ⟨gb752, 2, none⟩ = some (.int .i64 a2_2)) (ds := []) #[false, false, false, false, false, false, false, false, false, false, false, false, false, false, false, false] (by kernel_rfl) rfl rfl ⟨(blk_cell BK751.out 0).trans rfl, (blk_cell BK751.out 1).trans rfl, (blk_cell BK751.out 2).trans rfl, (blk_cell BK752.out 0).trans rfl, (blk_cell BK752.out 1).trans rfl, (blk_cell BK752.out 2).trans rfl⟩ (fun hHeld => ?_); refine with_tabW impl_joinLevel.tab1 impl_joinLevel.bits1 (fun HT_ HW_ => ?_)
  generalize w10.drew = w11 at BK751 BK752 HB hHeld ⊢
  refine pure_ (i := 0) (N := some 7) (v := ?_) (a' := ?_) #[true, false, false, false, false, false, false, false, false, false, false, false, false, false, false, false] rfl rfl (any_of HT_.out (by kernel_rfl)) (fun _ _ _ h => h) (Or.inl ⟨by rfl, ?_⟩) ?_ ?_
  rotate_left
  · intro w'
    go_simp
    with_reducible rfl
  rotate_left
  · simp only [Act.put, List.setIfInBounds_toArray, List.set_cons_zero, List.set_cons_succ, i64_w, i32_w]
    rfl
  refine pure_ (i := 2) (N := some 9) (v := ?_) (a' := ?_) #[true, false, true, false, false, false, false, false, false, false, false, false, false, false, false, false] rfl rfl (any_of HT_.out (by kernel_rfl)) (fun _ _ _ h => h) (Or.inl ⟨by rfl, ?_⟩) ?_ ?_
  rotate_left
  · intro w'
    go_simp
    with_reducible rfl
  rotate_left
  · simp only [Act.put, List.setIfInBounds_toArray, List.set_cons_zero, List.set_cons_succ, i64_w, i32_w]
    rfl
  refine pure_ (i := 4) (N := some 11) (v := ?_) (a' := ?_) #[true, false, true, false, true, false, false, false, false, false, false, false, false, false, false, false] rfl rfl (any_of HT_.out (by kernel_rfl)) (fun _ _ _ h => h) (Or.inl ⟨by rfl, ?_⟩) ?_ ?_
  rotate_left
  · intro w'
    go_simp
    with_reducible rfl
  rotate_left
  · simp only [Act.put, List.setIfInBounds_toArray, List.set_cons_zero, List.set_cons_succ, i64_w, i32_w]
    rfl
  refine pure_ (i := 5) (N := some 12) (v := ?_) (a' := ?_) #[true, false, true, false, true, true, false, false, false, false, false, false, false, false, false, false] rfl rfl (any_of HT_.out (by kernel_rfl)) (fun _ _ _ h => h) (Or.inl ⟨by rfl, ?_⟩) ?_ ?_
  rotate_left
  · intro w'
    go_simp
    with_reducible rfl
  rotate_left
  · simp only [Act.put, List.setIfInBounds_toArray, List.set_cons_zero, List.set_cons_succ, i64_w, i32_w]
    rfl
  refine pure_ (i := 8) (N := some 15) (v := ?_) (a' := ?_) #[true, false, true, false, true, true, false, false, true, false, false, false, false, false, false, false] rfl rfl (any_of HT_.out (by kernel_rfl)) (fun _ _ _ h => h) (Or.inl ⟨by rfl, ?_⟩) ?_ ?_
  rotate_left
  · intro w'
    go_simp
    with_reducible rfl
  rotate_left
  · simp only [Act.put, List.setIfInBounds_toArray, List.set_cons_zero, List.set_cons_succ, i64_w, i32_w]
    rfl
  refine take_ (i := 1) (N := some 8) (v := ?_) (a' := ?_) #[true, true, true, false, true, true, false, false, true, false, false, false, false, false, false, false] rfl rfl (take_ofW HT_.out HW_.out (by kernel_rfl)) (fun _ _ _ h => h) (Or.inl ⟨by rfl, ?_⟩) hHeld ?_ ?_
  rotate_left
  · rintro w' ⟨s0, s1, s2, s3, s4, s5⟩
    go_simp
    with_reducible rfl
  rotate_left
  · simp only [Act.put, List.setIfInBounds_toArray, List.set_cons_zero, List.set_cons_succ, i64_w, i32_w]
    rfl
  refine take_ (i := 3) (N := some 10) (v := ?_) (a' := ?_) #[true, true, true, true, true, true, false, false, true, false, false, false, false, false, false, false] rfl rfl (take_ofW HT_.out HW_.out (by kernel_rfl)) (fun _ _ _ h => h) (Or.inl ⟨by rfl, ?_⟩) hHeld ?_ ?_
  rotate_left
  · rintro w' ⟨s0, s1, s2, s3, s4, s5⟩
    go_simp
    with_reducible rfl
  rotate_left
  · simp only [Act.put, List.setIfInBounds_toArray, List.set_cons_zero, List.set_cons_succ, i64_w, i32_w]
    rfl
  refine take_ (i := 6) (N := some 13) (v := ?_) (a' := ?_) #[true, true, true, true, true, true, true, false, true, false, false, false, false, false, false, false] rfl rfl (take_ofW HT_.out HW_.out (by kernel_rfl)) (fun _ _ _ h => h) (Or.inl ⟨by rfl, ?_⟩) hHeld ?_ ?_
  rotate_left
  · rintro w' ⟨s0, s1, s2, s3, s4, s5⟩
    go_simp
    with_reducible rfl
  rotate_left
  · simp only [Act.put, List.setIfInBounds_toArray, List.set_cons_zero, List.set_cons_succ, i64_w, i32_w]
    rfl
  refine take_ (i := 9) (N := some 16) (v := ?_) (a' := ?_) #[true, true, true, true, true, true, true, false, true, true, false, false, false, false, false, false] rfl rfl (take_ofW HT_.out HW_.out (by kernel_rfl)) (fun _ _ _ h => h) (Or.inl ⟨by rfl, ?_⟩) hHeld ?_ ?_
  rotate_left
  · rintro w' ⟨s0, s1, s2, s3, s4, s5⟩
    go_simp
    with_reducible rfl
  rotate_left
  · simp only [Act.put, List.setIfInBounds_toArray, List.set_cons_zero, List.set_cons_succ, i64_w, i32_w]
    rfl
  refine one_ (i := 7) (N := some 14) #[true, true, true, true, true, true, true, true, true, true, false, false, false, false, false, false] rfl rfl (one_of HT_.out (by kernel_rfl)) (by decide) (fun K hK => ?_)
  refine goes_ Try.func99 (by kernel_rfl) rfl #[.int .i64 a0, .agg #[.int .i64 a1_0, .int .i64 a1_1, .int .i64 a1_2]] (by rfl) rfl rfl (by (try simp only [List.map_toArray, List.map_cons, List.map_nil]); first | done | rfl | (simp only [List.length_drop, List.length_take]; rfl)) ?_
  with_reducible refine (impl_mark.calls k a0 a1_0 a1_1 a1_2 t753 _ A4.out).mono ?_
  rintro e w12 ⟨rfl, hb⟩
  refine ⟨_, rfl, ?_⟩
  have n0_ := Aside0.mk (blk_below (bkA BK751) hb)
  have n1_ := Aside0.mk (blk_below (bkA BK752) hb)
  have n2_ := Aside0.mk (below_step blA hb)
  clear BK751
  clear BK752
  clear HB
  have BK751 := n0_
  have BK752 := n1_
  have HB := n2_
  clear n0_ n1_ n2_
  (try clear hb)
  (try clear hb2)
  (try clear hk)
  (try clear hi)
  refine hK.out _ _ ⟨(blk_cell BK751.out 0).trans rfl, (blk_cell BK751.out 1).trans rfl, (blk_cell BK751.out 2).trans rfl, (blk_cell BK752.out 0).trans rfl, (blk_cell BK752.out 1).trans rfl, (blk_cell BK752.out 2).trans rfl⟩ (fun hHeld => ?_)
  clear hK K
  refine norm_ (a' := ?_) ?_ ?_
  rotate_left
  · show Act.put _ (some 14) _ = _
    simp only [Act.put, List.setIfInBounds_toArray, List.set_cons_zero, List.set_cons_succ, i64_w, i32_w]
    rfl
  refine one_ (i := 10) (N := some 17) #[true, true, true, true, true, true, true, true, true, true, true, false, false, false, false, false] rfl rfl (one_of HT_.out (by kernel_rfl)) (by decide) (fun K hK => ?_)
  refine goes_ Try.func99 (by kernel_rfl) rfl #[.int .i64 a0, .agg #[.int .i64 a2_0, .int .i64 a2_1, .int .i64 a2_2]] (by rfl) rfl rfl (by (try simp only [List.map_toArray, List.map_cons, List.map_nil]); first | done | rfl | (simp only [List.length_drop, List.length_take]; rfl)) ?_
  with_reducible refine (impl_mark.calls k a0 a2_0 a2_1 a2_2 t754 _ A5.out).mono ?_
  rintro e w13 ⟨rfl, hb⟩
  refine ⟨_, rfl, ?_⟩
  have n0_ := Aside0.mk (blk_below (bkA BK751) hb)
  have n1_ := Aside0.mk (blk_below (bkA BK752) hb)
  have n2_ := Aside0.mk (below_step blA hb)
  clear BK751
  clear BK752
  clear HB
  have BK751 := n0_
  have BK752 := n1_
  have HB := n2_
  clear n0_ n1_ n2_
  (try clear hb)
  (try clear hb2)
  (try clear hk)
  (try clear hi)
  refine hK.out _ _ ⟨(blk_cell BK751.out 0).trans rfl, (blk_cell BK751.out 1).trans rfl, (blk_cell BK751.out 2).trans rfl, (blk_cell BK752.out 0).trans rfl, (blk_cell BK752.out 1).trans rfl, (blk_cell BK752.out 2).trans rfl⟩ (fun hHeld => ?_)
  clear hK K
  refine norm_ (a' := ?_) ?_ ?_
  rotate_left
  · show Act.put _ (some 17) _ = _
    simp only [Act.put, List.setIfInBounds_toArray, List.set_cons_zero, List.set_cons_succ, i64_w, i32_w]
    rfl
  refine pure_ (i := 11) (N := some 18) (v := ?_) (a' := ?_) #[true, true, true, true, true, true, true, true, true, true, true, true, false, false, false, false] rfl rfl (any_of HT_.out (by kernel_rfl)) (fun _ _ _ h => h) (Or.inl ⟨by rfl, ?_⟩) ?_ ?_
  rotate_left
  · intro w'
    go_simp
    with_reducible rfl
  rotate_left
  · simp only [Act.put, List.setIfInBounds_toArray, List.set_cons_zero, List.set_cons_succ, i64_w, i32_w]
    rfl
  refine one_ (i := 12) (N := some 19) #[true, true, true, true, true, true, true, true, true, true, true, true, true, false, false, false] rfl rfl (one_of HT_.out (by kernel_rfl)) (by decide) (fun K hK => ?_)
  refine goes_ Try.func90 (by kernel_rfl) rfl #[.int .i64 a0, .int .i64 (wrap64 (t753 - t754))] (by rfl) rfl rfl (by (try simp only [List.map_toArray, List.map_cons, List.map_nil]); first | done | rfl | (simp only [List.length_drop, List.length_take]; rfl)) ?_
  with_reducible refine (impl_valuation.calls k a0 (wrap64 (t753 - t754)) t755 _ A6.out).mono ?_
  rintro e w' ⟨rfl, ⟨nd, rfl⟩⟩
  refine ⟨_, rfl, ?_⟩
  refine hK.out _ _ ⟨(blk_cell BK751.out 0).trans rfl, (blk_cell BK751.out 1).trans rfl, (blk_cell BK751.out 2).trans rfl, (blk_cell BK752.out 0).trans rfl, (blk_cell BK752.out 1).trans rfl, (blk_cell BK752.out 2).trans rfl⟩ (fun hHeld => ?_)
  clear hK K
  refine norm_ (a' := ?_) ?_ ?_
  rotate_left
  · show Act.put _ (some 19) _ = _
    simp only [Act.put, List.setIfInBounds_toArray, List.set_cons_zero, List.set_cons_succ, i64_w, i32_w]
    rfl
  refine pure_ (i := 13) (N := some 20) (v := ?_) (a' := ?_) #[true, true, true, true, true, true, true, true, true, true, true, true, true, true, false, false] rfl rfl (any_of HT_.out (by kernel_rfl)) (fun _ _ _ h => h) (Or.inl ⟨by rfl, ?_⟩) ?_ ?_
  rotate_left
  · intro w'
    go_simp
    with_reducible rfl
  rotate_left
  · simp only [Act.put, List.setIfInBounds_toArray, List.set_cons_zero, List.set_cons_succ, i64_w, i32_w]
    rfl
  refine pure_ (i := 14) (N := some 21) (v := ?_) (a' := ?_) #[true, true, true, true, true, true, true, true, true, true, true, true, true, true, true, false] rfl rfl (any_of HT_.out (by kernel_rfl)) (fun _ _ _ h => h) (Or.inl ⟨by rfl, ?_⟩) ?_ ?_
  rotate_left
  · intro w'
    go_simp
    with_reducible rfl
  rotate_left
  · simp only [Act.put, List.setIfInBounds_toArray, List.set_cons_zero, List.set_cons_succ, i64_w, i32_w]
    rfl
  refine pure_ (i := 15) (N := some 6) (v := ?_) (a' := ?_) #[true, true, true, true, true, true, true, true, true, true, true, true, true, true, true, true] rfl rfl (any_of HT_.out (by kernel_rfl)) (fun _ _ _ h => h) (Or.inl ⟨by rfl, ?_⟩) ?_ ?_
  rotate_left
  · intro w'
    go_simp
    with_reducible rfl
  rotate_left
  · simp only [Act.put, List.setIfInBounds_toArray, List.set_cons_zero, List.set_cons_succ, i64_w, i32_w]
    rfl
  refine done_ (done_of HT_.out (by kernel_rfl)) ?_
  try go_wp2
  go_ret
  exact ⟨by first | rfl | (simp [errW_none, errW_some] <;> rfl) | (simp only [← hji7, ← hji8]; first | rfl | (simp [errW_none, errW_some] <;> rfl)) | (simp [*, errW_none, errW_some] <;> rfl), blA⟩
/-! ### spec_l02Distance: function 81 -/
def spec_l02Distance.f (k : Nat) (a0 : Int) (a1_0 : Int) (a1_1 : Int) (a1_2 : Int) (a2_0 : Int) (a2_1 : Int) (a2_2 : Int) : Option (Int) := (spec_l02Join.f k a0 a1_0 a1_1 a1_2 a2_0 a2_1 a2_2).bind fun t738 => (some (wrap64 ((wrap64 (a1_0 + a2_0)) - (wrap64 (2 * t738)))))
theorem spec_l02Distance.mono : ∀ a0 a1 a2 a3 a4 a5 a6 k, LeO (spec_l02Distance.f k a0 a1 a2 a3 a4 a5 a6) (spec_l02Distance.f (k + 1) a0 a1 a2 a3 a4 a5 a6) := by
  intro a0 a1 a2 a3 a4 a5 a6 k
  unfold spec_l02Distance.f
  repeat' first
      | (with_reducible exact spec_l02Join.mono _ _ _ _ _ _ _ _)
      | (with_reducible exact LeO.refl _)
      | (with_reducible exact LeO.none _)
      | (with_reducible refine LeO.ite ?_ ?_)
      | (with_reducible refine LeO.bind ?_ (fun _ => ?_))
      | exact spec_l02Join.mono _ _ _ _ _ _ _ _
      | exact LeO.none _
      | refine LeO.ite ?_ ?_
      | refine LeO.bind ?_ (fun _ => ?_)
def spec_l02Distance.T1 : Bool × List (List Nat × List Nat) := (true, [([], []), ([0], [0]), ([], []), ([2], [2]), ([1, 3], [1, 3]), ([], []), ([], []), ([], []), ([5, 6, 7], [5, 6, 7]), ([8], [8]), ([4, 9], [4, 9]), ([10, 8, 0, 1, 2, 3, 4, 5, 6, 7, 8, 9, 10], [10])])
def spec_l02Distance.B1 : List Nat := [0, 1, 0, 4, 15, 0, 0, 0, 224, 480, 1023, 2047]
theorem spec_l02Distance.tab1 : rtab .any (opsOf Try.f81 1) = spec_l02Distance.T1 := by kernel_rfl
theorem spec_l02Distance.bits1 : waitsOk spec_l02Distance.T1.2 spec_l02Distance.B1 = true := by kernel_rfl
set_option maxHeartbeats 8000000 in
set_option maxRecDepth 100000 in
theorem spec_l02Distance.calls (k : Nat) (a0 : Int) (a1_0 : Int) (a1_1 : Int) (a1_2 : Int) (a2_0 : Int) (a2_1 : Int) (a2_2 : Int) (r : Int) (w : World) (h : spec_l02Distance.f k a0 a1_0 a1_1 a1_2 a2_0 a2_1 a2_2 = some r) :
    Calls Try.prog 81 #[.int .i64 a0, .agg #[.int .i64 a1_0, .int .i64 a1_1, .int .i64 a1_2], .agg #[.int .i64 a2_0, .int .i64 a2_1, .int .i64 a2_2]] w fun e w' => e = .returned (.int .i64 r) ∧ Below w.heap.size w w' := by
  have hu55 := Try.underlying55
  have HB := Aside0.mk (Below.refl w.heap.size w)
  have H : ((spec_l02Join.f k a0 a1_0 a1_1 a1_2 a2_0 a2_1 a2_2).bind fun t738 => (some (wrap64 ((wrap64 (a1_0 + a2_0)) - (wrap64 (2 * t738)))))) = some r := h
  clear h
  replace H := Option.bind_eq_some_iff.mp H
  obtain ⟨t738, A40, H⟩ := H
  replace H : (some (wrap64 ((wrap64 (a1_0 + a2_0)) - (wrap64 (2 * t738))))) = some r := H
  have A4 := Aside0.mk A40
  clear A40
  obtain rfl := Option.some.inj H
  go_enter Try.func81, Try.ntmps81
  try go_wp2_with (first | ((with_reducible refine gate_dst (N := 4) rfl ?_); refine box_event ?hg (N := 4) ?hd (cs := #[.int .i64 a1_0, .int .i64 a1_1, .int .i64 a1_2]) (t := 55) ?hr ?_; (case hd => rfl); (case hg => rfl); (case hr => first | (go_simp; done) | (go_simp; rfl)); intro gb736 hg w5 hbox hb; have n0_ := Aside0.mk (below_step blA hb); have n1_ := Aside0.mk (hbox); have n2_ := Aside0.mk (szA hg blA); have n3_ := Aside0.mk (szA hg blA); clear HB; have HB := n0_; have BK736 := n1_; have GW736 := n2_; have GE736 := n3_; clear n0_ n1_ n2_ n3_; clear hb hbox hg) | ((with_reducible refine gate_dst (N := 5) rfl ?_); refine box_event ?hg (N := 5) ?hd (cs := #[.int .i64 a2_0, .int .i64 a2_1, .int .i64 a2_2]) (t := 55) ?hr ?_; (case hd => rfl); (case hg => rfl); (case hr => first | (go_simp; done) | (go_simp; rfl)); intro gb737 hg w6 hbox hb; have n0_ := Aside0.mk (blk_below (bkA BK736) hb); have n1_ := Aside0.mk (below_step blA hb); have n2_ := Aside0.mk (hbox); have n3_ := Aside0.mk (szA hg blA); have n4_ := Aside0.mk (szA hg blA); have n5_ := Aside0.mk (neA hg (bkA BK736)); have n6_ := Aside0.mk (neB hg (bkA BK736)); clear BK736; clear HB; have BK736 := n0_; have HB := n1_; have BK737 := n2_; have GW737 := n3_; have GE737 := n4_; have NB736_737 := n5_; have NB737_736 := n6_; clear n0_ n1_ n2_ n3_ n4_ n5_ n6_; clear hb hbox hg))
  have n0_ := Aside0.mk (blk_drew BK736.out)
  have n1_ := Aside0.mk (blk_drew BK737.out)
  have n2_ := Aside0.mk (below_drew1 HB.out)
  clear BK736
  clear BK737
  clear HB
  have BK736 := n0_
  have BK737 := n1_
  have HB := n2_
  clear n0_ n1_ n2_
  refine start_ (n := 12) (S := fun w' => w'.cell? ⟨gb736, 0, none⟩ = some (.int .i64 a1_0) ∧ w'.cell? ⟨gb736, 1, none⟩ = some (.int .i64 a1_1) ∧ w'.cell? ⟨gb736, 2, none⟩ = some (.int .i64 a1_2) ∧ w'.cell? ⟨gb737, 0, none⟩ = some (.int .i64 a2_0) ∧ w'.cell? ⟨gb737, 1, none⟩ = some (.int .i64 a2_1) ∧ w'.cell? ⟨gb737, 2, none⟩ = some (.int .i64 a2_2)) (ds := []) #[false, false, false, false, false, false, false, false, false, false, false, false] (by kernel_rfl) rfl rfl ⟨(blk_cell BK736.out 0).trans rfl, (blk_cell BK736.out 1).trans rfl, (blk_cell BK736.out 2).trans rfl, (blk_cell BK737.out 0).trans rfl, (blk_cell BK737.out 1).trans rfl, (blk_cell BK737.out 2).trans rfl⟩ (fun hHeld => ?_); refine with_tabW spec_l02Distance.tab1 spec_l02Distance.bits1 (fun HT_ HW_ => ?_)
  generalize w6.drew = w7 at BK736 BK737 HB hHeld ⊢
  refine pure_ (i := 0) (N := some 7) (v := ?_) (a' := ?_) #[true, false, false, false, false, false, false, false, false, false, false, false] rfl rfl (any_of HT_.out (by kernel_rfl)) (fun _ _ _ h => h) (Or.inl ⟨by rfl, ?_⟩) ?_ ?_
  rotate_left
  · intro w'
    go_simp
    with_reducible rfl
  rotate_left
  · simp only [Act.put, List.setIfInBounds_toArray, List.set_cons_zero, List.set_cons_succ, i64_w, i32_w]
    rfl
  refine pure_ (i := 2) (N := some 9) (v := ?_) (a' := ?_) #[true, false, true, false, false, false, false, false, false, false, false, false] rfl rfl (any_of HT_.out (by kernel_rfl)) (fun _ _ _ h => h) (Or.inl ⟨by rfl, ?_⟩) ?_ ?_
  rotate_left
  · intro w'
    go_simp
    with_reducible rfl
  rotate_left
  · simp only [Act.put, List.setIfInBounds_toArray, List.set_cons_zero, List.set_cons_succ, i64_w, i32_w]
    rfl
  refine pure_ (i := 5) (N := some 12) (v := ?_) (a' := ?_) #[true, false, true, false, false, true, false, false, false, false, false, false] rfl rfl (any_of HT_.out (by kernel_rfl)) (fun _ _ _ h => h) (Or.inl ⟨by rfl, ?_⟩) ?_ ?_
  rotate_left
  · intro w'
    go_simp
    with_reducible rfl
  rotate_left
  · simp only [Act.put, List.setIfInBounds_toArray, List.set_cons_zero, List.set_cons_succ, i64_w, i32_w]
    rfl
  refine take_ (i := 1) (N := some 8) (v := ?_) (a' := ?_) #[true, true, true, false, false, true, false, false, false, false, false, false] rfl rfl (take_ofW HT_.out HW_.out (by kernel_rfl)) (fun _ _ _ h => h) (Or.inl ⟨by rfl, ?_⟩) hHeld ?_ ?_
  rotate_left
  · rintro w' ⟨s0, s1, s2, s3, s4, s5⟩
    go_simp
    with_reducible rfl
  rotate_left
  · simp only [Act.put, List.setIfInBounds_toArray, List.set_cons_zero, List.set_cons_succ, i64_w, i32_w]
    rfl
  refine take_ (i := 3) (N := some 10) (v := ?_) (a' := ?_) #[true, true, true, true, false, true, false, false, false, false, false, false] rfl rfl (take_ofW HT_.out HW_.out (by kernel_rfl)) (fun _ _ _ h => h) (Or.inl ⟨by rfl, ?_⟩) hHeld ?_ ?_
  rotate_left
  · rintro w' ⟨s0, s1, s2, s3, s4, s5⟩
    go_simp
    with_reducible rfl
  rotate_left
  · simp only [Act.put, List.setIfInBounds_toArray, List.set_cons_zero, List.set_cons_succ, i64_w, i32_w]
    rfl
  refine pure_ (i := 4) (N := some 11) (v := ?_) (a' := ?_) #[true, true, true, true, true, true, false, false, false, false, false, false] rfl rfl (any_of HT_.out (by kernel_rfl)) (fun _ _ _ h => h) (Or.inl ⟨by rfl, ?_⟩) ?_ ?_
  rotate_left
  · intro w'
    go_simp
    with_reducible rfl
  rotate_left
  · simp only [Act.put, List.setIfInBounds_toArray, List.set_cons_zero, List.set_cons_succ, i64_w, i32_w]
    rfl
  refine take_ (i := 6) (N := some 13) (v := ?_) (a' := ?_) #[true, true, true, true, true, true, true, false, false, false, false, false] rfl rfl (take_ofW HT_.out HW_.out (by kernel_rfl)) (fun _ _ _ h => h) (Or.inl ⟨by rfl, ?_⟩) hHeld ?_ ?_
  rotate_left
  · rintro w' ⟨s0, s1, s2, s3, s4, s5⟩
    go_simp
    with_reducible rfl
  rotate_left
  · simp only [Act.put, List.setIfInBounds_toArray, List.set_cons_zero, List.set_cons_succ, i64_w, i32_w]
    rfl
  refine take_ (i := 7) (N := some 14) (v := ?_) (a' := ?_) #[true, true, true, true, true, true, true, true, false, false, false, false] rfl rfl (take_ofW HT_.out HW_.out (by kernel_rfl)) (fun _ _ _ h => h) (Or.inl ⟨by rfl, ?_⟩) hHeld ?_ ?_
  rotate_left
  · rintro w' ⟨s0, s1, s2, s3, s4, s5⟩
    go_simp
    with_reducible rfl
  rotate_left
  · simp only [Act.put, List.setIfInBounds_toArray, List.set_cons_zero, List.set_cons_succ, i64_w, i32_w]
    rfl
  refine one_ (i := 8) (N := some 15) #[true, true, true, true, true, true, true, true, true, false, false, false] rfl rfl (one_of HT_.out (by kernel_rfl)) (by decide) (fun K hK => ?_)
  refine goes_ Try.func101 (by kernel_rfl) rfl #[.int .i64 a0, .agg #[.int .i64 a1_0, .int .i64 a1_1, .int .i64 a1_2], .agg #[.int .i64 a2_0, .int .i64 a2_1, .int .i64 a2_2]] (by rfl) rfl rfl (by (try simp only [List.map_toArray, List.map_cons, List.map_nil]); first | done | rfl | (simp only [List.length_drop, List.length_take]; rfl)) ?_
  with_reducible refine (spec_l02Join.calls k a0 a1_0 a1_1 a1_2 a2_0 a2_1 a2_2 t738 _ A4.out).mono ?_
  rintro e w8 ⟨rfl, hb⟩
  refine ⟨_, rfl, ?_⟩
  have n0_ := Aside0.mk (blk_below (bkA BK736) hb)
  have n1_ := Aside0.mk (blk_below (bkA BK737) hb)
  have n2_ := Aside0.mk (below_step blA hb)
  clear BK736
  clear BK737
  clear HB
  have BK736 := n0_
  have BK737 := n1_
  have HB := n2_
  clear n0_ n1_ n2_
  (try clear hb)
  (try clear hb2)
  (try clear hk)
  (try clear hi)
  refine hK.out _ _ ⟨(blk_cell BK736.out 0).trans rfl, (blk_cell BK736.out 1).trans rfl, (blk_cell BK736.out 2).trans rfl, (blk_cell BK737.out 0).trans rfl, (blk_cell BK737.out 1).trans rfl, (blk_cell BK737.out 2).trans rfl⟩ (fun hHeld => ?_)
  clear hK K
  refine norm_ (a' := ?_) ?_ ?_
  rotate_left
  · show Act.put _ (some 15) _ = _
    simp only [Act.put, List.setIfInBounds_toArray, List.set_cons_zero, List.set_cons_succ, i64_w, i32_w]
    rfl
  refine pure_ (i := 9) (N := some 16) (v := ?_) (a' := ?_) #[true, true, true, true, true, true, true, true, true, true, false, false] rfl rfl (any_of HT_.out (by kernel_rfl)) (fun _ _ _ h => h) (Or.inl ⟨by rfl, ?_⟩) ?_ ?_
  rotate_left
  · intro w'
    go_simp
    with_reducible rfl
  rotate_left
  · simp only [Act.put, List.setIfInBounds_toArray, List.set_cons_zero, List.set_cons_succ, i64_w, i32_w]
    rfl
  refine pure_ (i := 10) (N := some 17) (v := ?_) (a' := ?_) #[true, true, true, true, true, true, true, true, true, true, true, false] rfl rfl (any_of HT_.out (by kernel_rfl)) (fun _ _ _ h => h) (Or.inl ⟨by rfl, ?_⟩) ?_ ?_
  rotate_left
  · intro w'
    go_simp
    with_reducible rfl
  rotate_left
  · simp only [Act.put, List.setIfInBounds_toArray, List.set_cons_zero, List.set_cons_succ, i64_w, i32_w]
    rfl
  refine pure_ (i := 11) (N := some 6) (v := ?_) (a' := ?_) #[true, true, true, true, true, true, true, true, true, true, true, true] rfl rfl (any_of HT_.out (by kernel_rfl)) (fun _ _ _ h => h) (Or.inl ⟨by rfl, ?_⟩) ?_ ?_
  rotate_left
  · intro w'
    go_simp
    with_reducible rfl
  rotate_left
  · simp only [Act.put, List.setIfInBounds_toArray, List.set_cons_zero, List.set_cons_succ, i64_w, i32_w]
    rfl
  refine done_ (done_of HT_.out (by kernel_rfl)) ?_
  try go_wp2
  go_ret
  exact ⟨by first | rfl | (simp [errW_none, errW_some] <;> rfl) | (simp [*, errW_none, errW_some] <;> rfl), blA⟩
/-! ### impl_distance: function 82 -/
def impl_distance.f (k : Nat) (a0 : Int) (a1_0 : Int) (a1_1 : Int) (a1_2 : Int) (a2_0 : Int) (a2_1 : Int) (a2_2 : Int) : Option (Int) := (impl_joinLevel.f k a0 a1_0 a1_1 a1_2 a2_0 a2_1 a2_2).bind fun t758 => (some (wrap64 ((wrap64 (a1_0 + a2_0)) - (wrap64 (2 * t758)))))
theorem impl_distance.mono : ∀ a0 a1 a2 a3 a4 a5 a6 k, LeO (impl_distance.f k a0 a1 a2 a3 a4 a5 a6) (impl_distance.f (k + 1) a0 a1 a2 a3 a4 a5 a6) := by
  intro a0 a1 a2 a3 a4 a5 a6 k
  unfold impl_distance.f
  repeat' first
      | (with_reducible exact impl_joinLevel.mono _ _ _ _ _ _ _ _)
      | (with_reducible exact LeO.refl _)
      | (with_reducible exact LeO.none _)
      | (with_reducible refine LeO.ite ?_ ?_)
      | (with_reducible refine LeO.bind ?_ (fun _ => ?_))
      | exact impl_joinLevel.mono _ _ _ _ _ _ _ _
      | exact LeO.none _
      | refine LeO.ite ?_ ?_
      | refine LeO.bind ?_ (fun _ => ?_)
def impl_distance.T1 : Bool × List (List Nat × List Nat) := (true, [([], []), ([0], [0]), ([], []), ([2], [2]), ([1, 3], [1, 3]), ([], []), ([], []), ([], []), ([5, 6, 7], [5, 6, 7]), ([8], [8]), ([4, 9], [4, 9]), ([10, 8, 0, 1, 2, 3, 4, 5, 6, 7, 8, 9, 10], [10])])
def impl_distance.B1 : List Nat := [0, 1, 0, 4, 15, 0, 0, 0, 224, 480, 1023, 2047]
theorem impl_distance.tab1 : rtab .any (opsOf Try.f82 1) = impl_distance.T1 := by kernel_rfl
theorem impl_distance.bits1 : waitsOk impl_distance.T1.2 impl_distance.B1 = true := by kernel_rfl
set_option maxHeartbeats 8000000 in
set_option maxRecDepth 100000 in
theorem impl_distance.calls (k : Nat) (a0 : Int) (a1_0 : Int) (a1_1 : Int) (a1_2 : Int) (a2_0 : Int) (a2_1 : Int) (a2_2 : Int) (r : Int) (w : World) (h : impl_distance.f k a0 a1_0 a1_1 a1_2 a2_0 a2_1 a2_2 = some r) :
    Calls Try.prog 82 #[.int .i64 a0, .agg #[.int .i64 a1_0, .int .i64 a1_1, .int .i64 a1_2], .agg #[.int .i64 a2_0, .int .i64 a2_1, .int .i64 a2_2]] w fun e w' => e = .returned (.int .i64 r) ∧ Below w.heap.size w w' := by
  have hu55 := Try.underlying55
  have HB := Aside0.mk (Below.refl w.heap.size w)
  have H : ((impl_joinLevel.f k a0 a1_0 a1_1 a1_2 a2_0 a2_1 a2_2).bind fun t758 => (some (wrap64 ((wrap64 (a1_0 + a2_0)) - (wrap64 (2 * t758)))))) = some r := h
  clear h
  replace H := Option.bind_eq_some_iff.mp H
  obtain ⟨t758, A40, H⟩ := H
  replace H : (some (wrap64 ((wrap64 (a1_0 + a2_0)) - (wrap64 (2 * t758))))) = some r := H
  have A4 := Aside0.mk A40
  clear A40
  obtain rfl := Option.some.inj H
  go_enter Try.func82, Try.ntmps82
  try go_wp2_with (first | ((with_reducible refine gate_dst (N := 4) rfl ?_); refine box_event ?hg (N := 4) ?hd (cs := #[.int .i64 a1_0, .int .i64 a1_1, .int .i64 a1_2]) (t := 55) ?hr ?_; (case hd => rfl); (case hg => rfl); (case hr => first | (go_simp; done) | (go_simp; rfl)); intro gb756 hg w5 hbox hb; have n0_ := Aside0.mk (below_step blA hb); have n1_ := Aside0.mk (hbox); have n2_ := Aside0.mk (szA hg blA); have n3_ := Aside0.mk (szA hg blA); clear HB; have HB := n0_; have BK756 := n1_; have GW756 := n2_; have GE756 := n3_; clear n0_ n1_ n2_ n3_; clear hb hbox hg) | ((with_reducible refine gate_dst (N := 5) rfl ?_); refine box_event ?hg (N := 5) ?hd (cs := #[.int .i64 a2_0, .int .i64 a2_1, .int .i64 a2_2]) (t := 55) ?hr ?_; (case hd => rfl); (case hg => rfl); (case hr => first | (go_simp; done) | (go_simp; rfl)); intro gb757 hg w6 hbox hb; have n0_ := Aside0.mk (blk_below (bkA BK756) hb); have n1_ := Aside0.mk (below_step blA hb); have n2_ := Aside0.mk (hbox); have n3_ := Aside0.mk (szA hg blA); have n4_ := Aside0.mk (szA hg blA); have n5_ := Aside0.mk (neA hg (bkA BK756)); have n6_ := Aside0.mk (neB hg (bkA BK756)); clear BK756; clear HB; have BK756 := n0_; have HB := n1_; have BK757 := n2_; have GW757 := n3_; have GE757 := n4_; have NB756_757 := n5_; have NB757_756 := n6_; clear n0_ n1_ n2_ n3_ n4_ n5_ n6_; clear hb hbox hg))
  have n0_ := Aside0.mk (blk_drew BK756.out)
  have n1_ := Aside0.mk (blk_drew BK757.out)
  have n2_ := Aside0.mk (below_drew1 HB.out)
  clear BK756
  clear BK757
  clear HB
  have BK756 := n0_
  have BK757 := n1_
  have HB := n2_
  clear n0_ n1_ n2_
  refine start_ (n := 12) (S := fun w' => w'.cell? ⟨gb756, 0, none⟩ = some (.int .i64 a1_0) ∧ w'.cell? ⟨gb756, 1, none⟩ = some (.int .i64 a1_1) ∧ w'.cell? ⟨gb756, 2, none⟩ = some (.int .i64 a1_2) ∧ w'.cell? ⟨gb757, 0, none⟩ = some (.int .i64 a2_0) ∧ w'.cell? ⟨gb757, 1, none⟩ = some (.int .i64 a2_1) ∧ w'.cell? ⟨gb757, 2, none⟩ = some (.int .i64 a2_2)) (ds := []) #[false, false, false, false, false, false, false, false, false, false, false, false] (by kernel_rfl) rfl rfl ⟨(blk_cell BK756.out 0).trans rfl, (blk_cell BK756.out 1).trans rfl, (blk_cell BK756.out 2).trans rfl, (blk_cell BK757.out 0).trans rfl, (blk_cell BK757.out 1).trans rfl, (blk_cell BK757.out 2).trans rfl⟩ (fun hHeld => ?_); refine with_tabW impl_distance.tab1 impl_distance.bits1 (fun HT_ HW_ => ?_)
  generalize w6.drew = w7 at BK756 BK757 HB hHeld ⊢
  refine pure_ (i := 0) (N := some 7) (v := ?_) (a' := ?_) #[true, false, false, false, false, false, false, false, false, false, false, false] rfl rfl (any_of HT_.out (by kernel_rfl)) (fun _ _ _ h => h) (Or.inl ⟨by rfl, ?_⟩) ?_ ?_
  rotate_left
  · intro w'
    go_simp
    with_reducible rfl
  rotate_left
  · simp only [Act.put, List.setIfInBounds_toArray, List.set_cons_zero, List.set_cons_succ, i64_w, i32_w]
    rfl
  refine pure_ (i := 2) (N := some 9) (v := ?_) (a' := ?_) #[true, false, true, false, false, false, false, false, false, false, false, false] rfl rfl (any_of HT_.out (by kernel_rfl)) (fun _ _ _ h => h) (Or.inl ⟨by rfl, ?_⟩) ?_ ?_
  rotate_left
  · intro w'
    go_simp
    with_reducible rfl
  rotate_left
  · simp only [Act.put, List.setIfInBounds_toArray, List.set_cons_zero, List.set_cons_succ, i64_w, i32_w]
    rfl
  refine pure_ (i := 5) (N := some 12) (v := ?_) (a' := ?_) #[true, false, true, false, false, true, false, false, false, false, false, false] rfl rfl (any_of HT_.out (by kernel_rfl)) (fun _ _ _ h => h) (Or.inl ⟨by rfl, ?_⟩) ?_ ?_
  rotate_left
  · intro w'
    go_simp
    with_reducible rfl
  rotate_left
  · simp only [Act.put, List.setIfInBounds_toArray, List.set_cons_zero, List.set_cons_succ, i64_w, i32_w]
    rfl
  refine take_ (i := 1) (N := some 8) (v := ?_) (a' := ?_) #[true, true, true, false, false, true, false, false, false, false, false, false] rfl rfl (take_ofW HT_.out HW_.out (by kernel_rfl)) (fun _ _ _ h => h) (Or.inl ⟨by rfl, ?_⟩) hHeld ?_ ?_
  rotate_left
  · rintro w' ⟨s0, s1, s2, s3, s4, s5⟩
    go_simp
    with_reducible rfl
  rotate_left
  · simp only [Act.put, List.setIfInBounds_toArray, List.set_cons_zero, List.set_cons_succ, i64_w, i32_w]
    rfl
  refine take_ (i := 3) (N := some 10) (v := ?_) (a' := ?_) #[true, true, true, true, false, true, false, false, false, false, false, false] rfl rfl (take_ofW HT_.out HW_.out (by kernel_rfl)) (fun _ _ _ h => h) (Or.inl ⟨by rfl, ?_⟩) hHeld ?_ ?_
  rotate_left
  · rintro w' ⟨s0, s1, s2, s3, s4, s5⟩
    go_simp
    with_reducible rfl
  rotate_left
  · simp only [Act.put, List.setIfInBounds_toArray, List.set_cons_zero, List.set_cons_succ, i64_w, i32_w]
    rfl
  refine pure_ (i := 4) (N := some 11) (v := ?_) (a' := ?_) #[true, true, true, true, true, true, false, false, false, false, false, false] rfl rfl (any_of HT_.out (by kernel_rfl)) (fun _ _ _ h => h) (Or.inl ⟨by rfl, ?_⟩) ?_ ?_
  rotate_left
  · intro w'
    go_simp
    with_reducible rfl
  rotate_left
  · simp only [Act.put, List.setIfInBounds_toArray, List.set_cons_zero, List.set_cons_succ, i64_w, i32_w]
    rfl
  refine take_ (i := 6) (N := some 13) (v := ?_) (a' := ?_) #[true, true, true, true, true, true, true, false, false, false, false, false] rfl rfl (take_ofW HT_.out HW_.out (by kernel_rfl)) (fun _ _ _ h => h) (Or.inl ⟨by rfl, ?_⟩) hHeld ?_ ?_
  rotate_left
  · rintro w' ⟨s0, s1, s2, s3, s4, s5⟩
    go_simp
    with_reducible rfl
  rotate_left
  · simp only [Act.put, List.setIfInBounds_toArray, List.set_cons_zero, List.set_cons_succ, i64_w, i32_w]
    rfl
  refine take_ (i := 7) (N := some 14) (v := ?_) (a' := ?_) #[true, true, true, true, true, true, true, true, false, false, false, false] rfl rfl (take_ofW HT_.out HW_.out (by kernel_rfl)) (fun _ _ _ h => h) (Or.inl ⟨by rfl, ?_⟩) hHeld ?_ ?_
  rotate_left
  · rintro w' ⟨s0, s1, s2, s3, s4, s5⟩
    go_simp
    with_reducible rfl
  rotate_left
  · simp only [Act.put, List.setIfInBounds_toArray, List.set_cons_zero, List.set_cons_succ, i64_w, i32_w]
    rfl
  refine one_ (i := 8) (N := some 15) #[true, true, true, true, true, true, true, true, true, false, false, false] rfl rfl (one_of HT_.out (by kernel_rfl)) (by decide) (fun K hK => ?_)
  refine goes_ Try.func102 (by kernel_rfl) rfl #[.int .i64 a0, .agg #[.int .i64 a1_0, .int .i64 a1_1, .int .i64 a1_2], .agg #[.int .i64 a2_0, .int .i64 a2_1, .int .i64 a2_2]] (by rfl) rfl rfl (by (try simp only [List.map_toArray, List.map_cons, List.map_nil]); first | done | rfl | (simp only [List.length_drop, List.length_take]; rfl)) ?_
  with_reducible refine (impl_joinLevel.calls k a0 a1_0 a1_1 a1_2 a2_0 a2_1 a2_2 t758 _ A4.out).mono ?_
  rintro e w8 ⟨rfl, hb⟩
  refine ⟨_, rfl, ?_⟩
  have n0_ := Aside0.mk (blk_below (bkA BK756) hb)
  have n1_ := Aside0.mk (blk_below (bkA BK757) hb)
  have n2_ := Aside0.mk (below_step blA hb)
  clear BK756
  clear BK757
  clear HB
  have BK756 := n0_
  have BK757 := n1_
  have HB := n2_
  clear n0_ n1_ n2_
  (try clear hb)
  (try clear hb2)
  (try clear hk)
  (try clear hi)
  refine hK.out _ _ ⟨(blk_cell BK756.out 0).trans rfl, (blk_cell BK756.out 1).trans rfl, (blk_cell BK756.out 2).trans rfl, (blk_cell BK757.out 0).trans rfl, (blk_cell BK757.out 1).trans rfl, (blk_cell BK757.out 2).trans rfl⟩ (fun hHeld => ?_)
  clear hK K
  refine norm_ (a' := ?_) ?_ ?_
  rotate_left
  · show Act.put _ (some 15) _ = _
    simp only [Act.put, List.setIfInBounds_toArray, List.set_cons_zero, List.set_cons_succ, i64_w, i32_w]
    rfl
  refine pure_ (i := 9) (N := some 16) (v := ?_) (a' := ?_) #[true, true, true, true, true, true, true, true, true, true, false, false] rfl rfl (any_of HT_.out (by kernel_rfl)) (fun _ _ _ h => h) (Or.inl ⟨by rfl, ?_⟩) ?_ ?_
  rotate_left
  · intro w'
    go_simp
    with_reducible rfl
  rotate_left
  · simp only [Act.put, List.setIfInBounds_toArray, List.set_cons_zero, List.set_cons_succ, i64_w, i32_w]
    rfl
  refine pure_ (i := 10) (N := some 17) (v := ?_) (a' := ?_) #[true, true, true, true, true, true, true, true, true, true, true, false] rfl rfl (any_of HT_.out (by kernel_rfl)) (fun _ _ _ h => h) (Or.inl ⟨by rfl, ?_⟩) ?_ ?_
  rotate_left
  · intro w'
    go_simp
    with_reducible rfl
  rotate_left
  · simp only [Act.put, List.setIfInBounds_toArray, List.set_cons_zero, List.set_cons_succ, i64_w, i32_w]
    rfl
  refine pure_ (i := 11) (N := some 6) (v := ?_) (a' := ?_) #[true, true, true, true, true, true, true, true, true, true, true, true] rfl rfl (any_of HT_.out (by kernel_rfl)) (fun _ _ _ h => h) (Or.inl ⟨by rfl, ?_⟩) ?_ ?_
  rotate_left
  · intro w'
    go_simp
    with_reducible rfl
  rotate_left
  · simp only [Act.put, List.setIfInBounds_toArray, List.set_cons_zero, List.set_cons_succ, i64_w, i32_w]
    rfl
  refine done_ (done_of HT_.out (by kernel_rfl)) ?_
  try go_wp2
  go_ret
  exact ⟨by first | rfl | (simp [errW_none, errW_some] <;> rfl) | (simp [*, errW_none, errW_some] <;> rfl), blA⟩
/-! ### spec_DisplacementOf: function 44 -/
def spec_DisplacementOf.f (k : Nat) (a0 : Int) (a1_0 : Int) (a1_1 : Int) (a1_2 : Int) (a1_3 : Int) (a2_0 : Int) (a2_1 : Int) (a2_2 : Int) : Option (Int × Int) := (spec_l04Code.f k a0 a1_0 a1_1 a1_2 a1_3 (([(⟨a2_0, a2_1, a2_2⟩ : S55)] : List (S55)))).bind fun t744 => (if t744 = 0 then ((spec_l04Move.f k a0 a1_0 a1_1 a1_2 a1_3 a2_0 a2_1 a2_2).bind fun bt745 => (if bt745.2.2.2 = true then ((spec_l02Distance.f k a0 a2_0 a2_1 a2_2 bt745.1 bt745.2.1 bt745.2.2.1).bind fun t750 => (some (t750, 0))) else (some (0, 3)))) else (some (0, t744)))
theorem spec_DisplacementOf.mono : ∀ a0 a1 a2 a3 a4 a5 a6 a7 k, LeO (spec_DisplacementOf.f k a0 a1 a2 a3 a4 a5 a6 a7) (spec_DisplacementOf.f (k + 1) a0 a1 a2 a3 a4 a5 a6 a7) := by
  intro a0 a1 a2 a3 a4 a5 a6 a7 k
  unfold spec_DisplacementOf.f
  repeat' first
      | (with_reducible exact spec_l02Distance.mono _ _ _ _ _ _ _ _)
      | (with_reducible exact spec_l04Code.mono _ _ _ _ _ _ _)
      | (with_reducible exact spec_l04Move.mono _ _ _ _ _ _ _ _ _)
      | (with_reducible exact LeO.refl _)
      | (with_reducible exact LeO.none _)
      | (with_reducible refine LeO.ite ?_ ?_)
      | (with_reducible refine LeO.bind ?_ (fun _ => ?_))
      | exact spec_l02Distance.mono _ _ _ _ _ _ _ _
      | exact spec_l04Code.mono _ _ _ _ _ _ _
      | exact spec_l04Move.mono _ _ _ _ _ _ _ _ _
      | exact LeO.none _
      | refine LeO.ite ?_ ?_
      | refine LeO.bind ?_ (fun _ => ?_)
set_option maxHeartbeats 8000000 in
set_option maxRecDepth 100000 in
theorem spec_DisplacementOf.calls (k : Nat) (a0 : Int) (a1_0 : Int) (a1_1 : Int) (a1_2 : Int) (a1_3 : Int) (a2_0 : Int) (a2_1 : Int) (a2_2 : Int) (r1 : Int) (r2 : Int) (w : World) (h : spec_DisplacementOf.f k a0 a1_0 a1_1 a1_2 a1_3 a2_0 a2_1 a2_2 = some (r1, r2)) :
    Calls Try.prog 44 #[.int .i64 a0, .agg #[.int .i64 a1_0, .int .i64 a1_1, .int .i64 a1_2, .int .i64 a1_3], .agg #[.int .i64 a2_0, .int .i64 a2_1, .int .i64 a2_2]] w fun e w' => e = .returned (.tuple #[.int .i64 r1, .int .i64 r2]) ∧ Below w.heap.size w w' := by
  have hu25 := Try.underlying25
  have hu55 := Try.underlying55
  have HB := Aside0.mk (Below.refl w.heap.size w)
  have H : ((spec_l04Code.f k a0 a1_0 a1_1 a1_2 a1_3 (([(⟨a2_0, a2_1, a2_2⟩ : S55)] : List (S55)))).bind fun t744 => (if t744 = 0 then ((spec_l04Move.f k a0 a1_0 a1_1 a1_2 a1_3 a2_0 a2_1 a2_2).bind fun bt745 => (if bt745.2.2.2 = true then ((spec_l02Distance.f k a0 a2_0 a2_1 a2_2 bt745.1 bt745.2.1 bt745.2.2.1).bind fun t750 => (some (t750, 0))) else (some (0, 3)))) else (some (0, t744)))) = some (r1, r2) := h
  clear h
  obtain ⟨y741, hy741⟩ : ∃ y_ : List (S55), y_ = (([(⟨a2_0, a2_1, a2_2⟩ : S55)] : List (S55))) := ⟨_, rfl⟩
  replace H : ((spec_l04Code.f k a0 a1_0 a1_1 a1_2 a1_3 y741).bind fun t744 => (if t744 = 0 then ((spec_l04Move.f k a0 a1_0 a1_1 a1_2 a1_3 a2_0 a2_1 a2_2).bind fun bt745 => (if bt745.2.2.2 = true then ((spec_l02Distance.f k a0 a2_0 a2_1 a2_2 bt745.1 bt745.2.1 bt745.2.2.1).bind fun t750 => (some (t750, 0))) else (some (0, 3)))) else (some (0, t744)))) = some (r1, r2) := by first | (rw [hy741]; with_reducible exact H) | (have H2_ := (Option.bind_some _ _).symm.trans H; rw [hy741]; with_reducible exact H2_) | (have H2_ := (Option.bind_some _ _).symm.trans H; with_reducible exact H2_) | with_reducible exact H | (rw [hy741]; exact H) | exact H
  have Ny741 := Aside0.mk hy741
  clear hy741
  replace H := Option.bind_eq_some_iff.mp H
  obtain ⟨t744, A40, H⟩ := H
  replace H : (if t744 = 0 then ((spec_l04Move.f k a0 a1_0 a1_1 a1_2 a1_3 a2_0 a2_1 a2_2).bind fun bt745 => (if bt745.2.2.2 = true then ((spec_l02Distance.f k a0 a2_0 a2_1 a2_2 bt745.1 bt745.2.1 bt745.2.2.1).bind fun t750 => (some (t750, 0))) else (some (0, 3)))) else (some (0, t744))) = some (r1, r2) := H
  have A4 := Aside0.mk A40
  clear A40
  by_cases c5 : t744 = 0
  · rw [if_pos c5] at H
    have c5b0 : (t744 == 0) = true := beq_iff_eq.mpr c5
    have c5b1 : (t744 != 0) = false := bne_eq_false_iff_eq.mpr c5
    clear c5
    replace H := Option.bind_eq_some_iff.mp H
    obtain ⟨⟨t745, t746, t747, t748⟩, A60, H⟩ := H
    replace H : (if t748 = true then ((spec_l02Distance.f k a0 a2_0 a2_1 a2_2 t745 t746 t747).bind fun t750 => (some (t750, 0))) else (some (0, 3))) = some (r1, r2) := H
    have A6 := Aside0.mk A60
    clear A60
    by_cases c7 : t748 = true
    · subst c7
      have H1 : ((spec_l02Distance.f k a0 a2_0 a2_1 a2_2 t745 t746 t747).bind fun t750 => (some (t750, 0))) = some (r1, r2) := by rw [if_pos rfl] at H; exact H
      clear H
      have H := H1
      clear H1
      replace H := Option.bind_eq_some_iff.mp H
      obtain ⟨t750, A80, H⟩ := H
      replace H : (some (t750, 0)) = some (r1, r2) := H
      have A8 := Aside0.mk A80
      clear A80
      simp only [Option.some.injEq, Prod.mk.injEq] at H
      obtain ⟨rfl, rfl⟩ := H
      go_enter Try.func44, Try.ntmps44
      go_wp2_with (first | ((with_reducible refine gate_dst (N := 4) rfl ?_); refine box_event ?hg (N := 4) ?hd (cs := #[.int .i64 a1_0, .int .i64 a1_1, .int .i64 a1_2, .int .i64 a1_3]) (t := 25) ?hr ?_; (case hd => rfl); (case hg => rfl); (case hr => first | (go_simp; done) | (go_simp; rfl)); intro gb739 hg w9 hbox hb; have n0_ := Aside0.mk (below_step blA hb); have n1_ := Aside0.mk (hbox); have n2_ := Aside0.mk (szA hg blA); have n3_ := Aside0.mk (szA hg blA); clear HB; have HB := n0_; have BK739 := n1_; have GW739 := n2_; have GE739 := n3_; clear n0_ n1_ n2_ n3_; clear hb hbox hg) | ((with_reducible refine gate_dst (N := 5) rfl ?_); refine box_event ?hg (N := 5) ?hd (cs := #[.int .i64 a2_0, .int .i64 a2_1, .int .i64 a2_2]) (t := 55) ?hr ?_; (case hd => rfl); (case hg => rfl); (case hr => first | (go_simp; done) | (go_simp; rfl)); intro gb740 hg w10 hbox hb; have n0_ := Aside0.mk (blk_below (bkA BK739) hb); have n1_ := Aside0.mk (below_step blA hb); have n2_ := Aside0.mk (hbox); have n3_ := Aside0.mk (szA hg blA); have n4_ := Aside0.mk (szA hg blA); have n5_ := Aside0.mk (neA hg (bkA BK739)); have n6_ := Aside0.mk (neB hg (bkA BK739)); clear BK739; clear HB; have BK739 := n0_; have HB := n1_; have BK740 := n2_; have GW740 := n3_; have GE740 := n4_; have NB739_740 := n5_; have NB740_739 := n6_; clear n0_ n1_ n2_ n3_ n4_ n5_ n6_; clear hb hbox hg; have hnb11 := NB739_740.out; have hnc11 := NB740_739.out; have hcz12_0 : w10.cell? ⟨gb739, 0, none⟩ = some (.int .i64 a1_0) := (blk_cell BK739.out 0).trans rfl; have hcz12_1 : w10.cell? ⟨gb739, 1, none⟩ = some (.int .i64 a1_1) := (blk_cell BK739.out 1).trans rfl; have hcz12_2 : w10.cell? ⟨gb739, 2, none⟩ = some (.int .i64 a1_2) := (blk_cell BK739.out 2).trans rfl; have hcz12_3 : w10.cell? ⟨gb739, 3, none⟩ = some (.int .i64 a1_3) := (blk_cell BK739.out 3).trans rfl; have hfz12_0 := blk_frozen BK739.out 0; have hfz12_1 := blk_frozen BK739.out 1; have hfz12_2 := blk_frozen BK739.out 2; have hfz12_3 := blk_frozen BK739.out 3; have hcz13_0 : w10.cell? ⟨gb740, 0, none⟩ = some (.int .i64 a2_0) := (blk_cell BK740.out 0).trans rfl; have hcz13_1 : w10.cell? ⟨gb740, 1, none⟩ = some (.int .i64 a2_1) := (blk_cell BK740.out 1).trans rfl; have hcz13_2 : w10.cell? ⟨gb740, 2, none⟩ = some (.int .i64 a2_2) := (blk_cell BK740.out 2).trans rfl; have hfz13_0 := blk_frozen BK740.out 0; have hfz13_1 := blk_frozen BK740.out 1; have hfz13_2 := blk_frozen BK740.out 2) | ((with_reducible refine gate_dst (N := 14) rfl ?_); refine Kd.R_lit k55 _ 55 ?hg (N := 14) ?hd (xs := ([(⟨a2_0, a2_1, a2_2⟩ : S55)] : List (S55))) (inner := [.int .i64 a2_0, .int .i64 a2_1, .int .i64 a2_2]) (ok := fun _ => True) (okp := fun _ => True) ?hr ?hp (fun _ hk => hk) trivial (Below.refl _ _) (Nat.le_refl _) (by simp) ?_; (case hd => rfl); (case hg => rfl); (case hr => first | (go_simp; done) | (go_simp; rfl)); (case hp => exact (Reps.c3 (show Kd.M k55 _ _ _ (⟨a2_0, a2_1, a2_2⟩ : S55) [.int .i64 a2_0, .int .i64 a2_1, .int .i64 a2_2] from (k55_mkM _ _ _ (⟨a2_0, a2_1, a2_2⟩ : S55) )) (Reps.none _ _))); intro v742 w14 ho15 hb hg_ hnew_; clear hg_ hnew_; (first | rw [← Ny741.out] at ho15 | (simp only [Int.reduceToNat] at ho15; rw [← Ny741.out] at ho15)); have n0_ := Aside0.mk (Kd.R_lower (Kd.R_newB ho15 (bkA BK740)) (below_size blA)); have n1_ := Aside0.mk (blk_below (bkA BK739) hb); have n2_ := Aside0.mk (blk_below (bkA BK740) hb); have n3_ := Aside0.mk (below_step blA hb); clear BK739; clear BK740; clear HB; have HO743 := n0_; have BK739 := n1_; have BK740 := n2_; have HB := n3_; clear n0_ n1_ n2_ n3_; clear hb ho15; obtain ⟨Ao16, co16, eo16⟩ := Kd.R_slice HO743.out; subst eo16) | ((with_reducible refine gate_callee (f := 62) rfl ?_); refine goesL_ (some 15) rfl rfl Try.func62 (by kernel_rfl) rfl #[.int .i64 a0, .agg #[.int .i64 a1_0, .int .i64 a1_1, .int .i64 a1_2, .int .i64 a1_3], .slice Ao16 y741.length co16] rfl (by (try simp only [List.map_toArray, List.map_cons, List.map_nil]); first | done | rfl | (simp only [List.length_drop, List.length_take]; rfl)) ?_; (with_reducible refine (spec_l04Code.calls k a0 a1_0 a1_1 a1_2 a1_3 _ _ y741 t744 _ ?side1 ?side2 A4.out).mono ?_); (case side1 => repeat (first | exact (Kd.R_reads' HO743.out).2.2 | (with_reducible refine Kd.C_alloc ?_ _) | (with_reducible refine Kd.C_drewN ?_ _) | (with_reducible refine Kd.C_drew ?_))); (case side2 => exact (Kd.R_reads' HO743.out).2.1); rintro e w17 ⟨rfl, hb⟩; refine ⟨_, rfl, ?_⟩; have n0_ := Aside0.mk (Kd.R_below (by (with_reducible repeat (first | apply Kd.R_alloc | apply Kd.R_drewN | apply Kd.R_drew)); exact HO743.out) hb); have n1_ := Aside0.mk (blk_below (bkA BK739) hb); have n2_ := Aside0.mk (blk_below (bkA BK740) hb); have n3_ := Aside0.mk (below_step blA hb); clear HO743; clear BK739; clear BK740; clear HB; have HO743 := n0_; have BK739 := n1_; have BK740 := n2_; have HB := n3_; clear n0_ n1_ n2_ n3_; (try clear hb); (try clear hb2); (try clear hk); (try clear hi); have hcz18_0 : w17.cell? ⟨gb739, 0, none⟩ = some (.int .i64 a1_0) := (blk_cell BK739.out 0).trans rfl; have hcz18_1 : w17.cell? ⟨gb739, 1, none⟩ = some (.int .i64 a1_1) := (blk_cell BK739.out 1).trans rfl; have hcz18_2 : w17.cell? ⟨gb739, 2, none⟩ = some (.int .i64 a1_2) := (blk_cell BK739.out 2).trans rfl; have hcz18_3 : w17.cell? ⟨gb739, 3, none⟩ = some (.int .i64 a1_3) := (blk_cell BK739.out 3).trans rfl; have hfz18_0 := blk_frozen BK739.out 0; have hfz18_1 := blk_frozen BK739.out 1; have hfz18_2 := blk_frozen BK739.out 2; have hfz18_3 := blk_frozen BK739.out 3; have hcz19_0 : w17.cell? ⟨gb740, 0, none⟩ = some (.int .i64 a2_0) := (blk_cell BK740.out 0).trans rfl; have hcz19_1 : w17.cell? ⟨gb740, 1, none⟩ = some (.int .i64 a2_1) := (blk_cell BK740.out 1).trans rfl; have hcz19_2 : w17.cell? ⟨gb740, 2, none⟩ = some (.int .i64 a2_2) := (blk_cell BK740.out 2).trans rfl; have hfz19_0 := blk_frozen BK740.out 0; have hfz19_1 := blk_frozen BK740.out 1; have hfz19_2 := blk_frozen BK740.out 2) | ((with_reducible refine gate_callee (f := 77) rfl ?_); refine goesL_ (some 23) rfl rfl Try.func77 (by kernel_rfl) rfl #[.int .i64 a0, .agg #[.int .i64 a1_0, .int .i64 a1_1, .int .i64 a1_2, .int .i64 a1_3], .agg #[.int .i64 a2_0, .int .i64 a2_1, .int .i64 a2_2]] rfl (by (try simp only [List.map_toArray, List.map_cons, List.map_nil]); first | done | rfl | (simp only [List.length_drop, List.length_take]; rfl)) ?_; (with_reducible refine (spec_l04Move.calls k a0 a1_0 a1_1 a1_2 a1_3 a2_0 a2_1 a2_2 t745 t746 t747 true _ A6.out).mono ?_); rintro e w20 ⟨rfl, hb⟩; refine ⟨_, rfl, ?_⟩; have n0_ := Aside0.mk (Kd.R_below (by (with_reducible repeat (first | apply Kd.R_alloc | apply Kd.R_drewN | apply Kd.R_drew)); exact HO743.out) hb); have n1_ := Aside0.mk (blk_below (bkA BK739) hb); have n2_ := Aside0.mk (blk_below (bkA BK740) hb); have n3_ := Aside0.mk (below_step blA hb); clear HO743; clear BK739; clear BK740; clear HB; have HO743 := n0_; have BK739 := n1_; have BK740 := n2_; have HB := n3_; clear n0_ n1_ n2_ n3_; (try clear hb); (try clear hb2); (try clear hk); (try clear hi)) | ((with_reducible refine gate_dst (N := 9) rfl ?_); refine box_event ?hg (N := 9) ?hd (cs := #[.int .i64 0, .int .i64 0, .int .i64 0]) (t := 55) ?hr ?_; (case hd => rfl); (case hg => rfl); (case hr => first | (go_simp; done) | (go_simp; rfl)); intro gb749 hg w21 hbox hb; have n0_ := Aside0.mk (Kd.R_below (Kd.R_elderB (by (with_reducible repeat (first | apply Kd.R_alloc | apply Kd.R_drewN | apply Kd.R_drew)); exact HO743.out) gb749 (Nat.le_of_eq hg.symm)) hb); have n1_ := Aside0.mk (blk_below (bkA BK739) hb); have n2_ := Aside0.mk (blk_below (bkA BK740) hb); have n3_ := Aside0.mk (below_step blA hb); have n4_ := Aside0.mk (hbox); have n5_ := Aside0.mk (szA hg blA); have n6_ := Aside0.mk (szA hg blA); have n7_ := Aside0.mk (neA hg (bkA BK739)); have n8_ := Aside0.mk (neB hg (bkA BK739)); have n9_ := Aside0.mk (neA hg (bkA BK740)); have n10_ := Aside0.mk (neB hg (bkA BK740)); clear HO743; clear BK739; clear BK740; clear HB; have HO743 := n0_; have BK739 := n1_; have BK740 := n2_; have HB := n3_; have BK749 := n4_; have GW749 := n5_; have GE749 := n6_; have NB739_749 := n7_; have NB749_739 := n8_; have NB740_749 := n9_; have NB749_740 := n10_; clear n0_ n1_ n2_ n3_ n4_ n5_ n6_ n7_ n8_ n9_ n10_; clear hb hbox hg; have hnb22 := NB749_739.out; have hnc22 := NB739_749.out; have hnb23 := NB749_740.out; have hnc23 := NB740_749.out; have hcz24_0 : w21.cell? ⟨gb749, 0, none⟩ = some (.int .i64 0) := (blk_cell BK749.out 0).trans rfl; have hcz24_1 : w21.cell? ⟨gb749, 1, none⟩ = some (.int .i64 0) := (blk_cell BK749.out 1).trans rfl; have hcz24_2 : w21.cell? ⟨gb749, 2, none⟩ = some (.int .i64 0) := (blk_cell BK749.out 2).trans rfl; have hfz24_0 := blk_frozen BK749.out 0; have hfz24_1 := blk_frozen BK749.out 1; have hfz24_2 := blk_frozen BK749.out 2; have hcz25_0 : w21.cell? ⟨gb740, 0, none⟩ = some (.int .i64 a2_0) := (blk_cell BK740.out 0).trans rfl; have hcz25_1 : w21.cell? ⟨gb740, 1, none⟩ = some (.int .i64 a2_1) := (blk_cell BK740.out 1).trans rfl; have hcz25_2 : w21.cell? ⟨gb740, 2, none⟩ = some (.int .i64 a2_2) := (blk_cell BK740.out 2).trans rfl; have hfz25_0 := blk_frozen BK740.out 0; have hfz25_1 := blk_frozen BK740.out 1; have hfz25_2 := blk_frozen BK740.out 2) | ((with_reducible refine gate_callee (f := 81) rfl ?_); refine goesL_ (some 31) rfl rfl Try.func81 (by kernel_rfl) rfl #[.int .i64 a0, .agg #[.int .i64 a2_0, .int .i64 a2_1, .int .i64 a2_2], .agg #[.int .i64 t745, .int .i64 t746, .int .i64 t747]] rfl (by (try simp only [List.map_toArray, List.map_cons, List.map_nil]); first | done | rfl | (simp only [List.length_drop, List.length_take]; rfl)) ?_; (with_reducible refine (spec_l02Distance.calls k a0 a2_0 a2_1 a2_2 t745 t746 t747 t750 _ A8.out).mono ?_); rintro e w26 ⟨rfl, hb⟩; refine ⟨_, rfl, ?_⟩; have n0_ := Aside0.mk (Kd.R_below (by (with_reducible repeat (first | apply Kd.R_alloc | apply Kd.R_drewN | apply Kd.R_drew)); exact (Kd.R_mono (Kd.R_far (p := ⟨gb749, 2, none⟩) (Kd.R_far (p := ⟨gb749, 1, none⟩) (Kd.R_far (p := ⟨gb749, 0, none⟩) (Kd.R_mono HO743.out (fun k_ hk => (⟨hk, hk.2⟩ : _ ∧ k_ ≠ gb749))) (fun _ hk => hk.2) (.int .i64 t745)) (fun _ hk => hk.2) (.int .i64 t746)) (fun _ hk => hk.2) (.int .i64 t747)) (fun _ h_ => h_.1))) hb); have n1_ := Aside0.mk (blk_below (g := gb739) (o := .cells #[.int .i64 a1_0, .int .i64 a1_1, .int .i64 a1_2, .int .i64 a1_3] 25 (0, 0)) (by (with_reducible repeat (first | refine blk_drewN ?_ _ | refine blk_drew ?_ | refine blk_alloc ?_ _)); refine blk_far ?_ NB739_749.out _; (with_reducible repeat (first | refine blk_drewN ?_ _ | refine blk_drew ?_ | refine blk_alloc ?_ _)); refine blk_far ?_ NB739_749.out _; (with_reducible repeat (first | refine blk_drewN ?_ _ | refine blk_drew ?_ | refine blk_alloc ?_ _)); refine blk_far ?_ NB739_749.out _; (with_reducible repeat (first | refine blk_drewN ?_ _ | refine blk_drew ?_ | refine blk_alloc ?_ _)); exact BK739.out) hb); have n2_ := Aside0.mk (blk_below (g := gb740) (o := .cells #[.int .i64 a2_0, .int .i64 a2_1, .int .i64 a2_2] 55 (0, 0)) (by (with_reducible repeat (first | refine blk_drewN ?_ _ | refine blk_drew ?_ | refine blk_alloc ?_ _)); refine blk_far ?_ NB740_749.out _; (with_reducible repeat (first | refine blk_drewN ?_ _ | refine blk_drew ?_ | refine blk_alloc ?_ _)); refine blk_far ?_ NB740_749.out _; (with_reducible repeat (first | refine blk_drewN ?_ _ | refine blk_drew ?_ | refine blk_alloc ?_ _)); refine blk_far ?_ NB740_749.out _; (with_reducible repeat (first | refine blk_drewN ?_ _ | refine blk_drew ?_ | refine blk_alloc ?_ _)); exact BK740.out) hb); have n3_ := Aside0.mk (blk_below (g := gb749) (o := .cells #[.int .i64 t745, .int .i64 t746, .int .i64 t747] 55 (0, 0)) (by (with_reducible repeat (first | refine blk_drewN ?_ _ | refine blk_drew ?_ | refine blk_alloc ?_ _)); refine blk_put (cs := #[.int .i64 t745, .int .i64 t746, .int .i64 0]) ?_ 2 _ rfl; (with_reducible repeat (first | refine blk_drewN ?_ _ | refine blk_drew ?_ | refine blk_alloc ?_ _)); refine blk_put (cs := #[.int .i64 t745, .int .i64 0, .int .i64 0]) ?_ 1 _ rfl; (with_reducible repeat (first | refine blk_drewN ?_ _ | refine blk_drew ?_ | refine blk_alloc ?_ _)); refine blk_put (cs := #[.int .i64 0, .int .i64 0, .int .i64 0]) ?_ 0 _ rfl; (with_reducible repeat (first | refine blk_drewN ?_ _ | refine blk_drew ?_ | refine blk_alloc ?_ _)); exact BK749.out) hb); have n4_ := Aside0.mk (below_step blA hb); clear HO743; clear BK739; clear BK740; clear BK749; clear HB; have HO743 := n0_; have BK739 := n1_; have BK740 := n2_; have BK749 := n3_; have HB := n4_; clear n0_ n1_ n2_ n3_ n4_; (try clear hb); (try clear hb2); (try clear hk); (try clear hi)))
      go_ret2
      exact ⟨by first | rfl | (simp [errW_none, errW_some] <;> rfl) | (simp [*, errW_none, errW_some] <;> rfl), blA⟩
    · replace c7 := Bool.eq_false_iff.mpr c7
      subst c7
      have H1 : (some (0, 3)) = some (r1, r2) := by rw [if_neg (show ¬ (false = true) by decide)] at H; exact H
      clear H
      have H := H1
      clear H1
      simp only [Option.some.injEq, Prod.mk.injEq] at H
      obtain ⟨rfl, rfl⟩ := H
      go_enter Try.func44, Try.ntmps44
      go_wp2_with (first | ((with_reducible refine gate_dst (N := 4) rfl ?_); refine box_event ?hg (N := 4) ?hd (cs := #[.int .i64 a1_0, .int .i64 a1_1, .int .i64 a1_2, .int .i64 a1_3]) (t := 25) ?hr ?_; (case hd => rfl); (case hg => rfl); (case hr => first | (go_simp; done) | (go_simp; rfl)); intro gb739 hg w27 hbox hb; have n0_ := Aside0.mk (below_step blA hb); have n1_ := Aside0.mk (hbox); have n2_ := Aside0.mk (szA hg blA); have n3_ := Aside0.mk (szA hg blA); clear HB; have HB := n0_; have BK739 := n1_; have GW739 := n2_; have GE739 := n3_; clear n0_ n1_ n2_ n3_; clear hb hbox hg) | ((with_reducible refine gate_dst (N := 5) rfl ?_); refine box_event ?hg (N := 5) ?hd (cs := #[.int .i64 a2_0, .int .i64 a2_1, .int .i64 a2_2]) (t := 55) ?hr ?_; (case hd => rfl); (case hg => rfl); (case hr => first | (go_simp; done) | (go_simp; rfl)); intro gb740 hg w28 hbox hb; have n0_ := Aside0.mk (blk_below (bkA BK739) hb); have n1_ := Aside0.mk (below_step blA hb); have n2_ := Aside0.mk (hbox); have n3_ := Aside0.mk (szA hg blA); have n4_ := Aside0.mk (szA hg blA); have n5_ := Aside0.mk (neA hg (bkA BK739)); have n6_ := Aside0.mk (neB hg (bkA BK739)); clear BK739; clear HB; have BK739 := n0_; have HB := n1_; have BK740 := n2_; have GW740 := n3_; have GE740 := n4_; have NB739_740 := n5_; have NB740_739 := n6_; clear n0_ n1_ n2_ n3_ n4_ n5_ n6_; clear hb hbox hg; have hnb29 := NB739_740.out; have hnc29 := NB740_739.out; have hcz30_0 : w28.cell? ⟨gb739, 0, none⟩ = some (.int .i64 a1_0) := (blk_cell BK739.out 0).trans rfl; have hcz30_1 : w28.cell? ⟨gb739, 1, none⟩ = some (.int .i64 a1_1) := (blk_cell BK739.out 1).trans rfl; have hcz30_2 : w28.cell? ⟨gb739, 2, none⟩ = some (.int .i64 a1_2) := (blk_cell BK739.out 2).trans rfl; have hcz30_3 : w28.cell? ⟨gb739, 3, none⟩ = some (.int .i64 a1_3) := (blk_cell BK739.out 3).trans rfl; have hfz30_0 := blk_frozen BK739.out 0; have hfz30_1 := blk_frozen BK739.out 1; have hfz30_2 := blk_frozen BK739.out 2; have hfz30_3 := blk_frozen BK739.out 3; have hcz31_0 : w28.cell? ⟨gb740, 0, none⟩ = some (.int .i64 a2_0) := (blk_cell BK740.out 0).trans rfl; have hcz31_1 : w28.cell? ⟨gb740, 1, none⟩ = some (.int .i64 a2_1) := (blk_cell BK740.out 1).trans rfl; have hcz31_2 : w28.cell? ⟨gb740, 2, none⟩ = some (.int .i64 a2_2) := (blk_cell BK740.out 2).trans rfl; have hfz31_0 := blk_frozen BK740.out 0; have hfz31_1 := blk_frozen BK740.out 1; have hfz31_2 := blk_frozen BK740.out 2) | ((with_reducible refine gate_dst (N := 14) rfl ?_); refine Kd.R_lit k55 _ 55 ?hg (N := 14) ?hd (xs := ([(⟨a2_0, a2_1, a2_2⟩ : S55)] : List (S55))) (inner := [.int .i64 a2_0, .int .i64 a2_1, .int .i64 a2_2]) (ok := fun _ => True) (okp := fun _ => True) ?hr ?hp (fun _ hk => hk) trivial (Below.refl _ _) (Nat.le_refl _) (by simp) ?_; (case hd => rfl); (case hg => rfl); (case hr => first | (go_simp; done) | (go_simp; rfl)); (case hp => exact (Reps.c3 (show Kd.M k55 _ _ _ (⟨a2_0, a2_1, a2_2⟩ : S55) [.int .i64 a2_0, .int .i64 a2_1, .int .i64 a2_2] from (k55_mkM _ _ _ (⟨a2_0, a2_1, a2_2⟩ : S55) )) (Reps.none _ _))); intro v742 w32 ho33 hb hg_ hnew_; clear hg_ hnew_; (first | rw [← Ny741.out] at ho33 | (simp only [Int.reduceToNat] at ho33; rw [← Ny741.out] at ho33)); have n0_ := Aside0.mk (Kd.R_lower (Kd.R_newB ho33 (bkA BK740)) (below_size blA)); have n1_ := Aside0.mk (blk_below (bkA BK739) hb); have n2_ := Aside0.mk (blk_below (bkA BK740) hb); have n3_ := Aside0.mk (below_step blA hb); clear BK739; clear BK740; clear HB; have HO743 := n0_; have BK739 := n1_; have BK740 := n2_; have HB := n3_; clear n0_ n1_ n2_ n3_; clear hb ho33; obtain ⟨Ao34, co34, eo34⟩ := Kd.R_slice HO743.out; subst eo34) | ((with_reducible refine gate_callee (f := 62) rfl ?_); refine goesL_ (some 15) rfl rfl Try.func62 (by kernel_rfl) rfl #[.int .i64 a0, .agg #[.int .i64 a1_0, .int .i64 a1_1, .int .i64 a1_2, .int .i64 a1_3], .slice Ao34 y741.length co34] rfl (by (try simp only [List.map_toArray, List.map_cons, List.map_nil]); first | done | rfl | (simp only [List.length_drop, List.length_take]; rfl)) ?_; (with_reducible refine (spec_l04Code.calls k a0 a1_0 a1_1 a1_2 a1_3 _ _ y741 t744 _ ?side1 ?side2 A4.out).mono ?_); (case side1 => repeat (first | exact (Kd.R_reads' HO743.out).2.2 | (with_reducible refine Kd.C_alloc ?_ _) | (with_reducible refine Kd.C_drewN ?_ _) | (with_reducible refine Kd.C_drew ?_))); (case side2 => exact (Kd.R_reads' HO743.out).2.1); rintro e w35 ⟨rfl, hb⟩; refine ⟨_, rfl, ?_⟩; have n0_ := Aside0.mk (Kd.R_below (by (with_reducible repeat (first | apply Kd.R_alloc | apply Kd.R_drewN | apply Kd.R_drew)); exact HO743.out) hb); have n1_ := Aside0.mk (blk_below (bkA BK739) hb); have n2_ := Aside0.mk (blk_below (bkA BK740) hb); have n3_ := Aside0.mk (below_step blA hb); clear HO743; clear BK739; clear BK740; clear HB; have HO743 := n0_; have BK739 := n1_; have BK740 := n2_; have HB := n3_; clear n0_ n1_ n2_ n3_; (try clear hb); (try clear hb2); (try clear hk); (try clear hi); have hcz36_0 : w35.cell? ⟨gb739, 0, none⟩ = some (.int .i64 a1_0) := (blk_cell BK739.out 0).trans rfl; have hcz36_1 : w35.cell? ⟨gb739, 1, none⟩ = some (.int .i64 a1_1) := (blk_cell BK739.out 1).trans rfl; have hcz36_2 : w35.cell? ⟨gb739, 2, none⟩ = some (.int .i64 a1_2) := (blk_cell BK739.out 2).trans rfl; have hcz36_3 : w35.cell? ⟨gb739, 3, none⟩ = some (.int .i64 a1_3) := (blk_cell BK739.out 3).trans rfl; have hfz36_0 := blk_frozen BK739.out 0; have hfz36_1 := blk_frozen BK739.out 1; have hfz36_2 := blk_frozen BK739.out 2; have hfz36_3 := blk_frozen BK739.out 3; have hcz37_0 : w35.cell? ⟨gb740, 0, none⟩ = some (.int .i64 a2_0) := (blk_cell BK740.out 0).trans rfl; have hcz37_1 : w35.cell? ⟨gb740, 1, none⟩ = some (.int .i64 a2_1) := (blk_cell BK740.out 1).trans rfl; have hcz37_2 : w35.cell? ⟨gb740, 2, none⟩ = some (.int .i64 a2_2) := (blk_cell BK740.out 2).trans rfl; have hfz37_0 := blk_frozen BK740.out 0; have hfz37_1 := blk_frozen BK740.out 1; have hfz37_2 := blk_frozen BK740.out 2) | ((with_reducible refine gate_callee (f := 77) rfl ?_); refine goesL_ (some 23) rfl rfl Try.func77 (by kernel_rfl) rfl #[.int .i64 a0, .agg #[.int .i64 a1_0, .int .i64 a1_1, .int .i64 a1_2, .int .i64 a1_3], .agg #[.int .i64 a2_0, .int .i64 a2_1, .int .i64 a2_2]] rfl (by (try simp only [List.map_toArray, List.map_cons, List.map_nil]); first | done | rfl | (simp only [List.length_drop, List.length_take]; rfl)) ?_; (with_reducible refine (spec_l04Move.calls k a0 a1_0 a1_1 a1_2 a1_3 a2_0 a2_1 a2_2 t745 t746 t747 false _ A6.out).mono ?_); rintro e w38 ⟨rfl, hb⟩; refine ⟨_, rfl, ?_⟩; have n0_ := Aside0.mk (Kd.R_below (by (with_reducible repeat (first | apply Kd.R_alloc | apply Kd.R_drewN | apply Kd.R_drew)); exact HO743.out) hb); have n1_ := Aside0.mk (blk_below (bkA BK739) hb); have n2_ := Aside0.mk (blk_below (bkA BK740) hb); have n3_ := Aside0.mk (below_step blA hb); clear HO743; clear BK739; clear BK740; clear HB; have HO743 := n0_; have BK739 := n1_; have BK740 := n2_; have HB := n3_; clear n0_ n1_ n2_ n3_; (try clear hb); (try clear hb2); (try clear hk); (try clear hi)) | ((with_reducible refine gate_dst (N := 9) rfl ?_); refine box_event ?hg (N := 9) ?hd (cs := #[.int .i64 0, .int .i64 0, .int .i64 0]) (t := 55) ?hr ?_; (case hd => rfl); (case hg => rfl); (case hr => first | (go_simp; done) | (go_simp; rfl)); intro gb749 hg w39 hbox hb; have n0_ := Aside0.mk (Kd.R_below (Kd.R_elderB (by (with_reducible repeat (first | apply Kd.R_alloc | apply Kd.R_drewN | apply Kd.R_drew)); exact HO743.out) gb749 (Nat.le_of_eq hg.symm)) hb); have n1_ := Aside0.mk (blk_below (bkA BK739) hb); have n2_ := Aside0.mk (blk_below (bkA BK740) hb); have n3_ := Aside0.mk (below_step blA hb); have n4_ := Aside0.mk (hbox); have n5_ := Aside0.mk (szA hg blA); have n6_ := Aside0.mk (szA hg blA); have n7_ := Aside0.mk (neA hg (bkA BK739)); have n8_ := Aside0.mk (neB hg (bkA BK739)); have n9_ := Aside0.mk (neA hg (bkA BK740)); have n10_ := Aside0.mk (neB hg (bkA BK740)); clear HO743; clear BK739; clear BK740; clear HB; have HO743 := n0_; have BK739 := n1_; have BK740 := n2_; have HB := n3_; have BK749 := n4_; have GW749 := n5_; have GE749 := n6_; have NB739_749 := n7_; have NB749_739 := n8_; have NB740_749 := n9_; have NB749_740 := n10_; clear n0_ n1_ n2_ n3_ n4_ n5_ n6_ n7_ n8_ n9_ n10_; clear hb hbox hg; have hnb40 := NB749_739.out; have hnc40 := NB739_749.out; have hnb41 := NB749_740.out; have hnc41 := NB740_749.out; have hcz42_0 : w39.cell? ⟨gb749, 0, none⟩ = some (.int .i64 0) := (blk_cell BK749.out 0).trans rfl; have hcz42_1 : w39.cell? ⟨gb749, 1, none⟩ = some (.int .i64 0) := (blk_cell BK749.out 1).trans rfl; have hcz42_2 : w39.cell? ⟨gb749, 2, none⟩ = some (.int .i64 0) := (blk_cell BK749.out 2).trans rfl; have hfz42_0 := blk_frozen BK749.out 0; have hfz42_1 := blk_frozen BK749.out 1; have hfz42_2 := blk_frozen BK749.out 2))
      go_ret2
      exact ⟨by first | rfl | (simp [errW_none, errW_some] <;> rfl) | (simp [*, errW_none, errW_some] <;> rfl), blA⟩
  · rw [if_neg c5] at H
    have c5b0 : (t744 == 0) = false := beq_eq_false_iff_ne.mpr c5
    have c5b1 : (t744 != 0) = true := bne_iff_ne.mpr c5
    simp only [Option.some.injEq, Prod.mk.injEq] at H
    obtain ⟨rfl, rfl⟩ := H
    go_enter Try.func44, Try.ntmps44
    go_wp2_with (first | ((with_reducible refine gate_dst (N := 4) rfl ?_); refine box_event ?hg (N := 4) ?hd (cs := #[.int .i64 a1_0, .int .i64 a1_1, .int .i64 a1_2, .int .i64 a1_3]) (t := 25) ?hr ?_; (case hd => rfl); (case hg => rfl); (case hr => first | (go_simp; done) | (go_simp; rfl)); intro gb739 hg w43 hbox hb; have n0_ := Aside0.mk (below_step blA hb); have n1_ := Aside0.mk (hbox); have n2_ := Aside0.mk (szA hg blA); have n3_ := Aside0.mk (szA hg blA); clear HB; have HB := n0_; have BK739 := n1_; have GW739 := n2_; have GE739 := n3_; clear n0_ n1_ n2_ n3_; clear hb hbox hg) | ((with_reducible refine gate_dst (N := 5) rfl ?_); refine box_event ?hg (N := 5) ?hd (cs := #[.int .i64 a2_0, .int .i64 a2_1, .int .i64 a2_2]) (t := 55) ?hr ?_; (case hd => rfl); (case hg => rfl); (case hr => first | (go_simp; done) | (go_simp; rfl)); intro gb740 hg w44 hbox hb; have n0_ := Aside0.mk (blk_below (bkA BK739) hb); have n1_ := Aside0.mk (below_step blA hb); have n2_ := Aside0.mk (hbox); have n3_ := Aside0.mk (szA hg blA); have n4_ := Aside0.mk (szA hg blA); have n5_ := Aside0.mk (neA hg (bkA BK739)); have n6_ := Aside0.mk (neB hg (bkA BK739)); clear BK739; clear HB; have BK739 := n0_; have HB := n1_; have BK740 := n2_; have GW740 := n3_; have GE740 := n4_; have NB739_740 := n5_; have NB740_739 := n6_; clear n0_ n1_ n2_ n3_ n4_ n5_ n6_; clear hb hbox hg; have hnb45 := NB739_740.out; have hnc45 := NB740_739.out; have hcz46_0 : w44.cell? ⟨gb739, 0, none⟩ = some (.int .i64 a1_0) := (blk_cell BK739.out 0).trans rfl; have hcz46_1 : w44.cell? ⟨gb739, 1, none⟩ = some (.int .i64 a1_1) := (blk_cell BK739.out 1).trans rfl; have hcz46_2 : w44.cell? ⟨gb739, 2, none⟩ = some (.int .i64 a1_2) := (blk_cell BK739.out 2).trans rfl; have hcz46_3 : w44.cell? ⟨gb739, 3, none⟩ = some (.int .i64 a1_3) := (blk_cell BK739.out 3).trans rfl; have hfz46_0 := blk_frozen BK739.out 0; have hfz46_1 := blk_frozen BK739.out 1; have hfz46_2 := blk_frozen BK739.out 2; have hfz46_3 := blk_frozen BK739.out 3; have hcz47_0 : w44.cell? ⟨gb740, 0, none⟩ = some (.int .i64 a2_0) := (blk_cell BK740.out 0).trans rfl; have hcz47_1 : w44.cell? ⟨gb740, 1, none⟩ = some (.int .i64 a2_1) := (blk_cell BK740.out 1).trans rfl; have hcz47_2 : w44.cell? ⟨gb740, 2, none⟩ = some (.int .i64 a2_2) := (blk_cell BK740.out 2).trans rfl; have hfz47_0 := blk_frozen BK740.out 0; have hfz47_1 := blk_frozen BK740.out 1; have hfz47_2 := blk_frozen BK740.out 2) | ((with_reducible refine gate_dst (N := 14) rfl ?_); refine Kd.R_lit k55 _ 55 ?hg (N := 14) ?hd (xs := ([(⟨a2_0, a2_1, a2_2⟩ : S55)] : List (S55))) (inner := [.int .i64 a2_0, .int .i64 a2_1, .int .i64 a2_2]) (ok := fun _ => True) (okp := fun _ => True) ?hr ?hp (fun _ hk => hk) trivial (Below.refl _ _) (Nat.le_refl _) (by simp) ?_; (case hd => rfl); (case hg => rfl); (case hr => first | (go_simp; done) | (go_simp; rfl)); (case hp => exact (Reps.c3 (show Kd.M k55 _ _ _ (⟨a2_0, a2_1, a2_2⟩ : S55) [.int .i64 a2_0, .int .i64 a2_1, .int .i64 a2_2] from (k55_mkM _ _ _ (⟨a2_0, a2_1, a2_2⟩ : S55) )) (Reps.none _ _))); intro v742 w48 ho49 hb hg_ hnew_; clear hg_ hnew_; (first | rw [← Ny741.out] at ho49 | (simp only [Int.reduceToNat] at ho49; rw [← Ny741.out] at ho49)); have n0_ := Aside0.mk (Kd.R_lower (Kd.R_newB ho49 (bkA BK740)) (below_size blA)); have n1_ := Aside0.mk (blk_below (bkA BK739) hb); have n2_ := Aside0.mk (blk_below (bkA BK740) hb); have n3_ := Aside0.mk (below_step blA hb); clear BK739; clear BK740; clear HB; have HO743 := n0_; have BK739 := n1_; have BK740 := n2_; have HB := n3_; clear n0_ n1_ n2_ n3_; clear hb ho49; obtain ⟨Ao50, co50, eo50⟩ := Kd.R_slice HO743.out; subst eo50) | ((with_reducible refine gate_callee (f := 62) rfl ?_); refine goesL_ (some 15) rfl rfl Try.func62 (by kernel_rfl) rfl #[.int .i64 a0, .agg #[.int .i64 a1_0, .int .i64 a1_1, .int .i64 a1_2, .int .i64 a1_3], .slice Ao50 y741.length co50] rfl (by (try simp only [List.map_toArray, List.map_cons, List.map_nil]); first | done | rfl | (simp only [List.length_drop, List.length_take]; rfl)) ?_; (with_reducible refine (spec_l04Code.calls k a0 a1_0 a1_1 a1_2 a1_3 _ _ y741 t744 _ ?side1 ?side2 A4.out).mono ?_); (case side1 => repeat (first | exact (Kd.R_reads' HO743.out).2.2 | (with_reducible refine Kd.C_alloc ?_ _) | (with_reducible refine Kd.C_drewN ?_ _) | (with_reducible refine Kd.C_drew ?_))); (case side2 => exact (Kd.R_reads' HO743.out).2.1); rintro e w51 ⟨rfl, hb⟩; refine ⟨_, rfl, ?_⟩; have n0_ := Aside0.mk (Kd.R_below (by (with_reducible repeat (first | apply Kd.R_alloc | apply Kd.R_drewN | apply Kd.R_drew)); exact HO743.out) hb); have n1_ := Aside0.mk (blk_below (bkA BK739) hb); have n2_ := Aside0.mk (blk_below (bkA BK740) hb); have n3_ := Aside0.mk (below_step blA hb); clear HO743; clear BK739; clear BK740; clear HB; have HO743 := n0_; have BK739 := n1_; have BK740 := n2_; have HB := n3_; clear n0_ n1_ n2_ n3_; (try clear hb); (try clear hb2); (try clear hk); (try clear hi)))
    go_ret2
    exact ⟨by first | rfl | (simp [errW_none, errW_some] <;> rfl) | (simp [*, errW_none, errW_some] <;> rfl), blA⟩
/-! ### impl_DisplacementOf: function 45 -/
def impl_DisplacementOf.f (k : Nat) (a0 : Int) (a1_0 : Int) (a1_1 : Int) (a1_2 : Int) (a1_3 : Int) (a2_0 : Int) (a2_1 : Int) (a2_2 : Int) : Option (Int × Int) := (impl_MoveBall.f k a0 a1_0 a1_1 a1_2 a1_3 a2_0 a2_1 a2_2).bind fun bt761 => (if bt761.2.2.2 = 0 then ((impl_distance.f k a0 a2_0 a2_1 a2_2 bt761.1 bt761.2.1 bt761.2.2.1).bind fun t766 => (some (t766, 0))) else (some (0, bt761.2.2.2)))
theorem impl_DisplacementOf.mono : ∀ a0 a1 a2 a3 a4 a5 a6 a7 k, LeO (impl_DisplacementOf.f k a0 a1 a2 a3 a4 a5 a6 a7) (impl_DisplacementOf.f (k + 1) a0 a1 a2 a3 a4 a5 a6 a7) := by
  intro a0 a1 a2 a3 a4 a5 a6 a7 k
  unfold impl_DisplacementOf.f
  repeat' first
      | (with_reducible exact impl_MoveBall.mono _ _ _ _ _ _ _ _ _)
      | (with_reducible exact impl_distance.mono _ _ _ _ _ _ _ _)
      | (with_reducible exact LeO.refl _)
      | (with_reducible exact LeO.none _)
      | (with_reducible refine LeO.ite ?_ ?_)
      | (with_reducible refine LeO.bind ?_ (fun _ => ?_))
      | exact impl_MoveBall.mono _ _ _ _ _ _ _ _ _
      | exact impl_distance.mono _ _ _ _ _ _ _ _
      | exact LeO.none _
      | refine LeO.ite ?_ ?_
      | refine LeO.bind ?_ (fun _ => ?_)
set_option maxHeartbeats 8000000 in
set_option maxRecDepth 100000 in
theorem impl_DisplacementOf.calls (k : Nat) (a0 : Int) (a1_0 : Int) (a1_1 : Int) (a1_2 : Int) (a1_3 : Int) (a2_0 : Int) (a2_1 : Int) (a2_2 : Int) (r1 : Int) (r2 : Int) (w : World) (h : impl_DisplacementOf.f k a0 a1_0 a1_1 a1_2 a1_3 a2_0 a2_1 a2_2 = some (r1, r2)) :
    Calls Try.prog 45 #[.int .i64 a0, .agg #[.int .i64 a1_0, .int .i64 a1_1, .int .i64 a1_2, .int .i64 a1_3], .agg #[.int .i64 a2_0, .int .i64 a2_1, .int .i64 a2_2]] w fun e w' => e = .returned (.tuple #[.int .i64 r1, .int .i64 r2]) ∧ Below w.heap.size w w' := by
  have hu25 := Try.underlying25
  have hu55 := Try.underlying55
  have HB := Aside0.mk (Below.refl w.heap.size w)
  have H : ((impl_MoveBall.f k a0 a1_0 a1_1 a1_2 a1_3 a2_0 a2_1 a2_2).bind fun bt761 => (if bt761.2.2.2 = 0 then ((impl_distance.f k a0 a2_0 a2_1 a2_2 bt761.1 bt761.2.1 bt761.2.2.1).bind fun t766 => (some (t766, 0))) else (some (0, bt761.2.2.2)))) = some (r1, r2) := h
  clear h
  replace H := Option.bind_eq_some_iff.mp H
  obtain ⟨⟨t761, t762, t763, t764⟩, A40, H⟩ := H
  replace H : (if t764 = 0 then ((impl_distance.f k a0 a2_0 a2_1 a2_2 t761 t762 t763).bind fun t766 => (some (t766, 0))) else (some (0, t764))) = some (r1, r2) := H
  have A4 := Aside0.mk A40
  clear A40
  by_cases c5 : t764 = 0
  · rw [if_pos c5] at H
    have c5b0 : (t764 == 0) = true := beq_iff_eq.mpr c5
    have c5b1 : (t764 != 0) = false := bne_eq_false_iff_eq.mpr c5
    clear c5
    replace H := Option.bind_eq_some_iff.mp H
    obtain ⟨t766, A60, H⟩ := H
    replace H : (some (t766, 0)) = some (r1, r2) := H
    have A6 := Aside0.mk A60
    clear A60
    simp only [Option.some.injEq, Prod.mk.injEq] at H
    obtain ⟨rfl, rfl⟩ := H
    go_enter Try.func45, Try.ntmps45
    go_wp2_with (first | ((with_reducible refine gate_dst (N := 4) rfl ?_); refine box_event ?hg (N := 4) ?hd (cs := #[.int .i64 a1_0, .int .i64 a1_1, .int .i64 a1_2, .int .i64 a1_3]) (t := 25) ?hr ?_; (case hd => rfl); (case hg => rfl); (case hr => first | (go_simp; done) | (go_simp; rfl)); intro gb759 hg w7 hbox hb; have n0_ := Aside0.mk (below_step blA hb); have n1_ := Aside0.mk (hbox); have n2_ := Aside0.mk (szA hg blA); have n3_ := Aside0.mk (szA hg blA); clear HB; have HB := n0_; have BK759 := n1_; have GW759 := n2_; have GE759 := n3_; clear n0_ n1_ n2_ n3_; clear hb hbox hg) | ((with_reducible refine gate_dst (N := 5) rfl ?_); refine box_event ?hg (N := 5) ?hd (cs := #[.int .i64 a2_0, .int .i64 a2_1, .int .i64 a2_2]) (t := 55) ?hr ?_; (case hd => rfl); (case hg => rfl); (case hr => first | (go_simp; done) | (go_simp; rfl)); intro gb760 hg w8 hbox hb; have n0_ := Aside0.mk (blk_below (bkA BK759) hb); have n1_ := Aside0.mk (below_step blA hb); have n2_ := Aside0.mk (hbox); have n3_ := Aside0.mk (szA hg blA); have n4_ := Aside0.mk (szA hg blA); have n5_ := Aside0.mk (neA hg (bkA BK759)); have n6_ := Aside0.mk (neB hg (bkA BK759)); clear BK759; clear HB; have BK759 := n0_; have HB := n1_; have BK760 := n2_; have GW760 := n3_; have GE760 := n4_; have NB759_760 := n5_; have NB760_759 := n6_; clear n0_ n1_ n2_ n3_ n4_ n5_ n6_; clear hb hbox hg; have hnb9 := NB759_760.out; have hnc9 := NB760_759.out; have hcz10_0 : w8.cell? ⟨gb759, 0, none⟩ = some (.int .i64 a1_0) := (blk_cell BK759.out 0).trans rfl; have hcz10_1 : w8.cell? ⟨gb759, 1, none⟩ = some (.int .i64 a1_1) := (blk_cell BK759.out 1).trans rfl; have hcz10_2 : w8.cell? ⟨gb759, 2, none⟩ = some (.int .i64 a1_2) := (blk_cell BK759.out 2).trans rfl; have hcz10_3 : w8.cell? ⟨gb759, 3, none⟩ = some (.int .i64 a1_3) := (blk_cell BK759.out 3).trans rfl; have hfz10_0 := blk_frozen BK759.out 0; have hfz10_1 := blk_frozen BK759.out 1; have hfz10_2 := blk_frozen BK759.out 2; have hfz10_3 := blk_frozen BK759.out 3; have hcz11_0 : w8.cell? ⟨gb760, 0, none⟩ = some (.int .i64 a2_0) := (blk_cell BK760.out 0).trans rfl; have hcz11_1 : w8.cell? ⟨gb760, 1, none⟩ = some (.int .i64 a2_1) := (blk_cell BK760.out 1).trans rfl; have hcz11_2 : w8.cell? ⟨gb760, 2, none⟩ = some (.int .i64 a2_2) := (blk_cell BK760.out 2).trans rfl; have hfz11_0 := blk_frozen BK760.out 0; have hfz11_1 := blk_frozen BK760.out 1; have hfz11_2 := blk_frozen BK760.out 2) | ((with_reducible refine gate_callee (f := 42) rfl ?_); refine goesL_ (some 14) rfl rfl Try.func42 (by kernel_rfl) rfl #[.int .i64 a0, .agg #[.int .i64 a1_0, .int .i64 a1_1, .int .i64 a1_2, .int .i64 a1_3], .agg #[.int .i64 a2_0, .int .i64 a2_1, .int .i64 a2_2]] rfl (by (try simp only [List.map_toArray, List.map_cons, List.map_nil]); first | done | rfl | (simp only [List.length_drop, List.length_take]; rfl)) ?_; (with_reducible refine (impl_MoveBall.calls k a0 a1_0 a1_1 a1_2 a1_3 a2_0 a2_1 a2_2 t761 t762 t763 t764 _ A4.out).mono ?_); rintro e w12 ⟨rfl, hb⟩; refine ⟨_, rfl, ?_⟩; have n0_ := Aside0.mk (blk_below (bkA BK759) hb); have n1_ := Aside0.mk (blk_below (bkA BK760) hb); have n2_ := Aside0.mk (below_step blA hb); clear BK759; clear BK760; clear HB; have BK759 := n0_; have BK760 := n1_; have HB := n2_; clear n0_ n1_ n2_; (try clear hb); (try clear hb2); (try clear hk); (try clear hi)) | ((with_reducible refine gate_dst (N := 8) rfl ?_); refine box_event ?hg (N := 8) ?hd (cs := #[.int .i64 0, .int .i64 0, .int .i64 0]) (t := 55) ?hr ?_; (case hd => rfl); (case hg => rfl); (case hr => first | (go_simp; done) | (go_simp; rfl)); intro gb765 hg w13 hbox hb; have n0_ := Aside0.mk (blk_below (bkA BK759) hb); have n1_ := Aside0.mk (blk_below (bkA BK760) hb); have n2_ := Aside0.mk (below_step blA hb); have n3_ := Aside0.mk (hbox); have n4_ := Aside0.mk (szA hg blA); have n5_ := Aside0.mk (szA hg blA); have n6_ := Aside0.mk (neA hg (bkA BK759)); have n7_ := Aside0.mk (neB hg (bkA BK759)); have n8_ := Aside0.mk (neA hg (bkA BK760)); have n9_ := Aside0.mk (neB hg (bkA BK760)); clear BK759; clear BK760; clear HB; have BK759 := n0_; have BK760 := n1_; have HB := n2_; have BK765 := n3_; have GW765 := n4_; have GE765 := n5_; have NB759_765 := n6_; have NB765_759 := n7_; have NB760_765 := n8_; have NB765_760 := n9_; clear n0_ n1_ n2_ n3_ n4_ n5_ n6_ n7_ n8_ n9_; clear hb hbox hg; have hnb14 := NB765_759.out; have hnc14 := NB759_765.out; have hnb15 := NB765_760.out; have hnc15 := NB760_765.out; have hcz16_0 : w13.cell? ⟨gb765, 0, none⟩ = some (.int .i64 0) := (blk_cell BK765.out 0).trans rfl; have hcz16_1 : w13.cell? ⟨gb765, 1, none⟩ = some (.int .i64 0) := (blk_cell BK765.out 1).trans rfl; have hcz16_2 : w13.cell? ⟨gb765, 2, none⟩ = some (.int .i64 0) := (blk_cell BK765.out 2).trans rfl; have hfz16_0 := blk_frozen BK765.out 0; have hfz16_1 := blk_frozen BK765.out 1; have hfz16_2 := blk_frozen BK765.out 2; have hcz17_0 : w13.cell? ⟨gb760, 0, none⟩ = some (.int .i64 a2_0) := (blk_cell BK760.out 0).trans rfl; have hcz17_1 : w13.cell? ⟨gb760, 1, none⟩ = some (.int .i64 a2_1) := (blk_cell BK760.out 1).trans rfl; have hcz17_2 : w13.cell? ⟨gb760, 2, none⟩ = some (.int .i64 a2_2) := (blk_cell BK760.out 2).trans rfl; have hfz17_0 := blk_frozen BK760.out 0; have hfz17_1 := blk_frozen BK760.out 1; have hfz17_2 := blk_frozen BK760.out 2) | ((with_reducible refine gate_callee (f := 82) rfl ?_); refine goesL_ (some 23) rfl rfl Try.func82 (by kernel_rfl) rfl #[.int .i64 a0, .agg #[.int .i64 a2_0, .int .i64 a2_1, .int .i64 a2_2], .agg #[.int .i64 t761, .int .i64 t762, .int .i64 t763]] rfl (by (try simp only [List.map_toArray, List.map_cons, List.map_nil]); first | done | rfl | (simp only [List.length_drop, List.length_take]; rfl)) ?_; (with_reducible refine (impl_distance.calls k a0 a2_0 a2_1 a2_2 t761 t762 t763 t766 _ A6.out).mono ?_); rintro e w18 ⟨rfl, hb⟩; refine ⟨_, rfl, ?_⟩; have n0_ := Aside0.mk (blk_below (g := gb759) (o := .cells #[.int .i64 a1_0, .int .i64 a1_1, .int .i64 a1_2, .int .i64 a1_3] 25 (0, 0)) (by (with_reducible repeat (first | refine blk_drewN ?_ _ | refine blk_drew ?_ | refine blk_alloc ?_ _)); refine blk_far ?_ NB759_765.out _; (with_reducible repeat (first | refine blk_drewN ?_ _ | refine blk_drew ?_ | refine blk_alloc ?_ _)); refine blk_far ?_ NB759_765.out _; (with_reducible repeat (first | refine blk_drewN ?_ _ | refine blk_drew ?_ | refine blk_alloc ?_ _)); refine blk_far ?_ NB759_765.out _; (with_reducible repeat (first | refine blk_drewN ?_ _ | refine blk_drew ?_ | refine blk_alloc ?_ _)); exact BK759.out) hb); have n1_ := Aside0.mk (blk_below (g := gb760) (o := .cells #[.int .i64 a2_0, .int .i64 a2_1, .int .i64 a2_2] 55 (0, 0)) (by (with_reducible repeat (first | refine blk_drewN ?_ _ | refine blk_drew ?_ | refine blk_alloc ?_ _)); refine blk_far ?_ NB760_765.out _; (with_reducible repeat (first | refine blk_drewN ?_ _ | refine blk_drew ?_ | refine blk_alloc ?_ _)); refine blk_far ?_ NB760_765.out _; (with_reducible repeat (first | refine blk_drewN ?_ _ | refine blk_drew ?_ | refine blk_alloc ?_ _)); refine blk_far ?_ NB760_765.out _; (with_reducible repeat (first | refine blk_drewN ?_ _ | refine blk_drew ?_ | refine blk_alloc ?_ _)); exact BK760.out) hb); have n2_ := Aside0.mk (blk_below (g := gb765) (o := .cells #[.int .i64 t761, .int .i64 t762, .int .i64 t763] 55 (0, 0)) (by (with_reducible repeat (first | refine blk_drewN ?_ _ | refine blk_drew ?_ | refine blk_alloc ?_ _)); refine blk_put (cs := #[.int .i64 t761, .int .i64 t762, .int .i64 0]) ?_ 2 _ rfl; (with_reducible repeat (first | refine blk_drewN ?_ _ | refine blk_drew ?_ | refine blk_alloc ?_ _)); refine blk_put (cs := #[.int .i64 t761, .int .i64 0, .int .i64 0]) ?_ 1 _ rfl; (with_reducible repeat (first | refine blk_drewN ?_ _ | refine blk_drew ?_ | refine blk_alloc ?_ _)); refine blk_put (cs := #[.int .i64 0, .int .i64 0, .int .i64 0]) ?_ 0 _ rfl; (with_reducible repeat (first | refine blk_drewN ?_ _ | refine blk_drew ?_ | refine blk_alloc ?_ _)); exact BK765.out) hb); have n3_ := Aside0.mk (below_step blA hb); clear BK759; clear BK760; clear BK765; clear HB; have BK759 := n0_; have BK760 := n1_; have BK765 := n2_; have HB := n3_; clear n0_ n1_ n2_ n3_; (try clear hb); (try clear hb2); (try clear hk); (try clear hi)))
    go_ret2
    exact ⟨by first | rfl | (simp [errW_none, errW_some] <;> rfl) | (simp [*, errW_none, errW_some] <;> rfl), blA⟩
  · rw [if_neg c5] at H
    have c5b0 : (t764 == 0) = false := beq_eq_false_iff_ne.mpr c5
    have c5b1 : (t764 != 0) = true := bne_iff_ne.mpr c5
    simp only [Option.some.injEq, Prod.mk.injEq] at H
    obtain ⟨rfl, rfl⟩ := H
    go_enter Try.func45, Try.ntmps45
    go_wp2_with (first | ((with_reducible refine gate_dst (N := 4) rfl ?_); refine box_event ?hg (N := 4) ?hd (cs := #[.int .i64 a1_0, .int .i64 a1_1, .int .i64 a1_2, .int .i64 a1_3]) (t := 25) ?hr ?_; (case hd => rfl); (case hg => rfl); (case hr => first | (go_simp; done) | (go_simp; rfl)); intro gb759 hg w19 hbox hb; have n0_ := Aside0.mk (below_step blA hb); have n1_ := Aside0.mk (hbox); have n2_ := Aside0.mk (szA hg blA); have n3_ := Aside0.mk (szA hg blA); clear HB; have HB := n0_; have BK759 := n1_; have GW759 := n2_; have GE759 := n3_; clear n0_ n1_ n2_ n3_; clear hb hbox hg) | ((with_reducible refine gate_dst (N := 5) rfl ?_); refine box_event ?hg (N := 5) ?hd (cs := #[.int .i64 a2_0, .int .i64 a2_1, .int .i64 a2_2]) (t := 55) ?hr ?_; (case hd => rfl); (case hg => rfl); (case hr => first | (go_simp; done) | (go_simp; rfl)); intro gb760 hg w20 hbox hb; have n0_ := Aside0.mk (blk_below (bkA BK759) hb); have n1_ := Aside0.mk (below_step blA hb); have n2_ := Aside0.mk (hbox); have n3_ := Aside0.mk (szA hg blA); have n4_ := Aside0.mk (szA hg blA); have n5_ := Aside0.mk (neA hg (bkA BK759)); have n6_ := Aside0.mk (neB hg (bkA BK759)); clear BK759; clear HB; have BK759 := n0_; have HB := n1_; have BK760 := n2_; have GW760 := n3_; have GE760 := n4_; have NB759_760 := n5_; have NB760_759 := n6_; clear n0_ n1_ n2_ n3_ n4_ n5_ n6_; clear hb hbox hg; have hnb21 := NB759_760.out; have hnc21 := NB760_759.out; have hcz22_0 : w20.cell? ⟨gb759, 0, none⟩ = some (.int .i64 a1_0) := (blk_cell BK759.out 0).trans rfl; have hcz22_1 : w20.cell? ⟨gb759, 1, none⟩ = some (.int .i64 a1_1) := (blk_cell BK759.out 1).trans rfl; have hcz22_2 : w20.cell? ⟨gb759, 2, none⟩ = some (.int .i64 a1_2) := (blk_cell BK759.out 2).trans rfl; have hcz22_3 : w20.cell? ⟨gb759, 3, none⟩ = some (.int .i64 a1_3) := (blk_cell BK759.out 3).trans rfl; have hfz22_0 := blk_frozen BK759.out 0; have hfz22_1 := blk_frozen BK759.out 1; have hfz22_2 := blk_frozen BK759.out 2; have hfz22_3 := blk_frozen BK759.out 3; have hcz23_0 : w20.cell? ⟨gb760, 0, none⟩ = some (.int .i64 a2_0) := (blk_cell BK760.out 0).trans rfl; have hcz23_1 : w20.cell? ⟨gb760, 1, none⟩ = some (.int .i64 a2_1) := (blk_cell BK760.out 1).trans rfl; have hcz23_2 : w20.cell? ⟨gb760, 2, none⟩ = some (.int .i64 a2_2) := (blk_cell BK760.out 2).trans rfl; have hfz23_0 := blk_frozen BK760.out 0; have hfz23_1 := blk_frozen BK760.out 1; have hfz23_2 := blk_frozen BK760.out 2) | ((with_reducible refine gate_callee (f := 42) rfl ?_); refine goesL_ (some 14) rfl rfl Try.func42 (by kernel_rfl) rfl #[.int .i64 a0, .agg #[.int .i64 a1_0, .int .i64 a1_1, .int .i64 a1_2, .int .i64 a1_3], .agg #[.int .i64 a2_0, .int .i64 a2_1, .int .i64 a2_2]] rfl (by (try simp only [List.map_toArray, List.map_cons, List.map_nil]); first | done | rfl | (simp only [List.length_drop, List.length_take]; rfl)) ?_; (with_reducible refine (impl_MoveBall.calls k a0 a1_0 a1_1 a1_2 a1_3 a2_0 a2_1 a2_2 t761 t762 t763 t764 _ A4.out).mono ?_); rintro e w24 ⟨rfl, hb⟩; refine ⟨_, rfl, ?_⟩; have n0_ := Aside0.mk (blk_below (bkA BK759) hb); have n1_ := Aside0.mk (blk_below (bkA BK760) hb); have n2_ := Aside0.mk (below_step blA hb); clear BK759; clear BK760; clear HB; have BK759 := n0_; have BK760 := n1_; have HB := n2_; clear n0_ n1_ n2_; (try clear hb); (try clear hb2); (try clear hk); (try clear hi)) | ((with_reducible refine gate_dst (N := 8) rfl ?_); refine box_event ?hg (N := 8) ?hd (cs := #[.int .i64 0, .int .i64 0, .int .i64 0]) (t := 55) ?hr ?_; (case hd => rfl); (case hg => rfl); (case hr => first | (go_simp; done) | (go_simp; rfl)); intro gb765 hg w25 hbox hb; have n0_ := Aside0.mk (blk_below (bkA BK759) hb); have n1_ := Aside0.mk (blk_below (bkA BK760) hb); have n2_ := Aside0.mk (below_step blA hb); have n3_ := Aside0.mk (hbox); have n4_ := Aside0.mk (szA hg blA); have n5_ := Aside0.mk (szA hg blA); have n6_ := Aside0.mk (neA hg (bkA BK759)); have n7_ := Aside0.mk (neB hg (bkA BK759)); have n8_ := Aside0.mk (neA hg (bkA BK760)); have n9_ := Aside0.mk (neB hg (bkA BK760)); clear BK759; clear BK760; clear HB; have BK759 := n0_; have BK760 := n1_; have HB := n2_; have BK765 := n3_; have GW765 := n4_; have GE765 := n5_; have NB759_765 := n6_; have NB765_759 := n7_; have NB760_765 := n8_; have NB765_760 := n9_; clear n0_ n1_ n2_ n3_ n4_ n5_ n6_ n7_ n8_ n9_; clear hb hbox hg; have hnb26 := NB765_759.out; have hnc26 := NB759_765.out; have hnb27 := NB765_760.out; have hnc27 := NB760_765.out; have hcz28_0 : w25.cell? ⟨gb765, 0, none⟩ = some (.int .i64 0) := (blk_cell BK765.out 0).trans rfl; have hcz28_1 : w25.cell? ⟨gb765, 1, none⟩ = some (.int .i64 0) := (blk_cell BK765.out 1).trans rfl; have hcz28_2 : w25.cell? ⟨gb765, 2, none⟩ = some (.int .i64 0) := (blk_cell BK765.out 2).trans rfl; have hfz28_0 := blk_frozen BK765.out 0; have hfz28_1 := blk_frozen BK765.out 1; have hfz28_2 := blk_frozen BK765.out 2))
    go_ret2
    exact ⟨by first | rfl | (simp [errW_none, errW_some] <;> rfl) | (simp [*, errW_none, errW_some] <;> rfl), blA⟩
end Go.Proofs.Ytmhajnfdbjnegaa.PAll
