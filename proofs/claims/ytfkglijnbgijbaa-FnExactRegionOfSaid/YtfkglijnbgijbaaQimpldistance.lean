-- turned for this claim out of the kit's print: the same functions, packed anew
import Derived.Test.YtfkglijnbgijbaaQx
import Derived.Test.YtfkglijnbgijbaaQimplmark
import Derived.Test.YtfkglijnbgijbaaQimplpower
import Derived.Test.YtfkglijnbgijbaaQimplvaluation
import Derived.Test.YtfkglijnbgijbaaQspecl01Code
namespace Go.Proofs.Ytfkglijnbgijbaa.PAll
open Go.RowKit Go.Proofs.YtfkglijnbgijbaaW.PrintWords Go.Proofs.YtfkglijnbgijbaaW.PrintLast Go.Proofs.YtfkglijnbgijbaaW.PrintMore
attribute [local go_sem] Go.Proofs.Ytfkglijnbgijbaa.Aux.setCell_drewN Go.Proofs.Ytfkglijnbgijbaa.Aux.isSome_setCell Go.Proofs.Ytfkglijnbgijbaa.Aux.max_eight max2_int min2_int max_two min_two max_three min_three max_four min_four   -- for this text's walks alone
set_option linter.unusedVariables false
set_option linter.unusedSimpArgs false
/-! ### spec_l02Valuation: function 149 -/
def spec_l02Valuation.f (k : Nat) (a0 : Int) (a1_0 : Int) (a1_1 : Int) (a1_2 : Int) (a2_0 : Int) (a2_1 : Int) (a2_2 : Int) : Option (Int × Bool) := (spec_l01Power.f k a0 (wrap64 ((mx a1_2 a2_2) - a1_2))).bind fun t396 => ((spec_l01Power.f k a0 (wrap64 ((mx a1_2 a2_2) - a2_2))).bind fun t397 => (if (wrap64 ((wrap64 (a1_1 * t396)) - (wrap64 (a2_1 * t397)))) = 0 then (some (0, false)) else ((spec_l01Val.f k a0 (wrap64 ((wrap64 (a1_1 * t396)) - (wrap64 (a2_1 * t397))))).bind fun t398 => (some (wrap64 (t398 - (mx a1_2 a2_2)), true)))))
theorem spec_l02Valuation.mono : ∀ a0 a1 a2 a3 a4 a5 a6 k, LeO (spec_l02Valuation.f k a0 a1 a2 a3 a4 a5 a6) (spec_l02Valuation.f (k + 1) a0 a1 a2 a3 a4 a5 a6) := by
  intro a0 a1 a2 a3 a4 a5 a6 k
  unfold spec_l02Valuation.f
  repeat' first
      | (with_reducible exact spec_l01Power.mono _ _ _)
      | (with_reducible exact spec_l01Val.mono _ _ _)
      | (with_reducible exact LeO.refl _)
      | (with_reducible exact LeO.none _)
      | (with_reducible refine LeO.ite ?_ ?_)
      | (with_reducible refine LeO.bind ?_ (fun _ => ?_))
      | exact spec_l01Power.mono _ _ _
      | exact spec_l01Val.mono _ _ _
      | exact LeO.none _
      | refine LeO.ite ?_ ?_
      | refine LeO.bind ?_ (fun _ => ?_)
set_option maxHeartbeats 8000000 in
set_option maxRecDepth 100000 in
theorem spec_l02Valuation.calls (k : Nat) (a0 : Int) (a1_0 : Int) (a1_1 : Int) (a1_2 : Int) (a2_0 : Int) (a2_1 : Int) (a2_2 : Int) (r1 : Int) (r2 : Bool) (w : World) (h : spec_l02Valuation.f k a0 a1_0 a1_1 a1_2 a2_0 a2_1 a2_2 = some (r1, r2)) :
    Calls Try.prog 149 #[.int .i64 a0, .agg #[.int .i64 a1_0, .int .i64 a1_1, .int .i64 a1_2], .agg #[.int .i64 a2_0, .int .i64 a2_1, .int .i64 a2_2]] w fun e w' => e = .returned (.tuple #[.int .i64 r1, .bool r2]) ∧ Below w.heap.size w w' := by
  have hu34 := Try.underlying34
  have HB := Aside0.mk (Below.refl w.heap.size w)
  have H : ((spec_l01Power.f k a0 (wrap64 ((mx a1_2 a2_2) - a1_2))).bind fun t396 => ((spec_l01Power.f k a0 (wrap64 ((mx a1_2 a2_2) - a2_2))).bind fun t397 => (if (wrap64 ((wrap64 (a1_1 * t396)) - (wrap64 (a2_1 * t397)))) = 0 then (some (0, false)) else ((spec_l01Val.f k a0 (wrap64 ((wrap64 (a1_1 * t396)) - (wrap64 (a2_1 * t397))))).bind fun t398 => (some (wrap64 (t398 - (mx a1_2 a2_2)), true)))))) = some (r1, r2) := h
  clear h
  obtain ⟨ji4, hji4⟩ : ∃ j_ : Int, (mx a1_2 a2_2) = j_ := ⟨_, rfl⟩
  replace H : ((spec_l01Power.f k a0 (wrap64 ((ji4) - a1_2))).bind fun t396 => ((spec_l01Power.f k a0 (wrap64 ((ji4) - a2_2))).bind fun t397 => (if (wrap64 ((wrap64 (a1_1 * t396)) - (wrap64 (a2_1 * t397)))) = 0 then (some (0, false)) else ((spec_l01Val.f k a0 (wrap64 ((wrap64 (a1_1 * t396)) - (wrap64 (a2_1 * t397))))).bind fun t398 => (some (wrap64 (t398 - (ji4)), true)))))) = some (r1, r2) := by first | (rw [hji4] at H; exact H) | (simp only [hji4] at H ⊢; exact H)
  have hji4_ : (if a1_2 < a2_2 then a2_2 else a1_2) = ji4 := hji4
  replace H := Option.bind_eq_some_iff.mp H
  obtain ⟨t396, A50, H⟩ := H
  replace H : ((spec_l01Power.f k a0 (wrap64 ((ji4) - a2_2))).bind fun t397 => (if (wrap64 ((wrap64 (a1_1 * t396)) - (wrap64 (a2_1 * t397)))) = 0 then (some (0, false)) else ((spec_l01Val.f k a0 (wrap64 ((wrap64 (a1_1 * t396)) - (wrap64 (a2_1 * t397))))).bind fun t398 => (some (wrap64 (t398 - (ji4)), true))))) = some (r1, r2) := H
  have A5 := Aside0.mk A50
  clear A50
  replace H := Option.bind_eq_some_iff.mp H
  obtain ⟨t397, A60, H⟩ := H
  replace H : (if (wrap64 ((wrap64 (a1_1 * t396)) - (wrap64 (a2_1 * t397)))) = 0 then (some (0, false)) else ((spec_l01Val.f k a0 (wrap64 ((wrap64 (a1_1 * t396)) - (wrap64 (a2_1 * t397))))).bind fun t398 => (some (wrap64 (t398 - (ji4)), true)))) = some (r1, r2) := H
  have A6 := Aside0.mk A60
  clear A60
  by_cases c7 : (wrap64 ((wrap64 (a1_1 * t396)) - (wrap64 (a2_1 * t397)))) = 0
  · rw [if_pos c7] at H
    have c7b0 : ((wrap64 ((wrap64 (a1_1 * t396)) - (wrap64 (a2_1 * t397)))) == 0) = true := beq_iff_eq.mpr c7
    have c7b1 : ((wrap64 ((wrap64 (a1_1 * t396)) - (wrap64 (a2_1 * t397)))) != 0) = false := bne_eq_false_iff_eq.mpr c7
    clear c7
    simp only [Option.some.injEq, Prod.mk.injEq] at H
    obtain ⟨rfl, rfl⟩ := H
    go_enter Try.func149, Try.ntmps149
    go_wp2_with (first | ((with_reducible refine gate_dst (N := 4) rfl ?_); refine box_event ?hg (N := 4) ?hd (cs := #[.int .i64 a1_0, .int .i64 a1_1, .int .i64 a1_2]) (t := 34) ?hr ?_; (case hd => rfl); (case hg => rfl); (case hr => first | (go_simp; done) | (go_simp; rfl)); intro gb394 hg w8 hbox hb; have n0_ := Aside0.mk (below_step blA hb); have n1_ := Aside0.mk (hbox); have n2_ := Aside0.mk (szA hg blA); have n3_ := Aside0.mk (szA hg blA); clear HB; have HB := n0_; have BK394 := n1_; have GW394 := n2_; have GE394 := n3_; clear n0_ n1_ n2_ n3_; clear hb hbox hg) | ((with_reducible refine gate_dst (N := 5) rfl ?_); refine box_event ?hg (N := 5) ?hd (cs := #[.int .i64 a2_0, .int .i64 a2_1, .int .i64 a2_2]) (t := 34) ?hr ?_; (case hd => rfl); (case hg => rfl); (case hr => first | (go_simp; done) | (go_simp; rfl)); intro gb395 hg w9 hbox hb; have n0_ := Aside0.mk (blk_below (bkA BK394) hb); have n1_ := Aside0.mk (below_step blA hb); have n2_ := Aside0.mk (hbox); have n3_ := Aside0.mk (szA hg blA); have n4_ := Aside0.mk (szA hg blA); have n5_ := Aside0.mk (neA hg (bkA BK394)); have n6_ := Aside0.mk (neB hg (bkA BK394)); clear BK394; clear HB; have BK394 := n0_; have HB := n1_; have BK395 := n2_; have GW395 := n3_; have GE395 := n4_; have NB394_395 := n5_; have NB395_394 := n6_; clear n0_ n1_ n2_ n3_ n4_ n5_ n6_; clear hb hbox hg; have hnb10 := NB394_395.out; have hnc10 := NB395_394.out; have hcz11_0 : w9.cell? ⟨gb394, 0, none⟩ = some (.int .i64 a1_0) := (blk_cell BK394.out 0).trans rfl; have hcz11_1 : w9.cell? ⟨gb394, 1, none⟩ = some (.int .i64 a1_1) := (blk_cell BK394.out 1).trans rfl; have hcz11_2 : w9.cell? ⟨gb394, 2, none⟩ = some (.int .i64 a1_2) := (blk_cell BK394.out 2).trans rfl; have hfz11_0 := blk_frozen BK394.out 0; have hfz11_1 := blk_frozen BK394.out 1; have hfz11_2 := blk_frozen BK394.out 2; have hcz12_0 : w9.cell? ⟨gb395, 0, none⟩ = some (.int .i64 a2_0) := (blk_cell BK395.out 0).trans rfl; have hcz12_1 : w9.cell? ⟨gb395, 1, none⟩ = some (.int .i64 a2_1) := (blk_cell BK395.out 1).trans rfl; have hcz12_2 : w9.cell? ⟨gb395, 2, none⟩ = some (.int .i64 a2_2) := (blk_cell BK395.out 2).trans rfl; have hfz12_0 := blk_frozen BK395.out 0; have hfz12_1 := blk_frozen BK395.out 1; have hfz12_2 := blk_frozen BK395.out 2) | (go_at_call 132; (with_reducible refine (spec_l01Power.calls k a0 (wrap64 ((ji4) - a1_2)) t396 _ A5.out).mono ?_); rintro e w' ⟨rfl, ⟨nd, rfl⟩⟩; (try first | exact ⟨rfl, _, World.drewN_drewN _ _ _⟩ | exact ⟨rfl, _, Eq.trans (World.drewN_drewN _ _ _) (congrArg (World.drewN _) (Nat.add_assoc _ _ _))⟩)) | (go_at_call 132; (with_reducible refine (spec_l01Power.calls k a0 (wrap64 ((ji4) - a2_2)) t397 _ A6.out).mono ?_); rintro e w' ⟨rfl, ⟨nd, rfl⟩⟩; (try first | exact ⟨rfl, _, World.drewN_drewN _ _ _⟩ | exact ⟨rfl, _, Eq.trans (World.drewN_drewN _ _ _) (congrArg (World.drewN _) (Nat.add_assoc _ _ _))⟩)))
    repeat (go_quiet (first | ((with_reducible refine gate_dst (N := 4) rfl ?_); refine box_event ?hg (N := 4) ?hd (cs := #[.int .i64 a1_0, .int .i64 a1_1, .int .i64 a1_2]) (t := 34) ?hr ?_; (case hd => rfl); (case hg => rfl); (case hr => first | (go_simp; done) | (go_simp; rfl)); intro gb394 hg w8 hbox hb; have n0_ := Aside0.mk (below_step blA hb); have n1_ := Aside0.mk (hbox); have n2_ := Aside0.mk (szA hg blA); have n3_ := Aside0.mk (szA hg blA); clear HB; have HB := n0_; have BK394 := n1_; have GW394 := n2_; have GE394 := n3_; clear n0_ n1_ n2_ n3_; clear hb hbox hg) | ((with_reducible refine gate_dst (N := 5) rfl ?_); refine box_event ?hg (N := 5) ?hd (cs := #[.int .i64 a2_0, .int .i64 a2_1, .int .i64 a2_2]) (t := 34) ?hr ?_; (case hd => rfl); (case hg => rfl); (case hr => first | (go_simp; done) | (go_simp; rfl)); intro gb395 hg w9 hbox hb; have n0_ := Aside0.mk (blk_below (bkA BK394) hb); have n1_ := Aside0.mk (below_step blA hb); have n2_ := Aside0.mk (hbox); have n3_ := Aside0.mk (szA hg blA); have n4_ := Aside0.mk (szA hg blA); have n5_ := Aside0.mk (neA hg (bkA BK394)); have n6_ := Aside0.mk (neB hg (bkA BK394)); clear BK394; clear HB; have BK394 := n0_; have HB := n1_; have BK395 := n2_; have GW395 := n3_; have GE395 := n4_; have NB394_395 := n5_; have NB395_394 := n6_; clear n0_ n1_ n2_ n3_ n4_ n5_ n6_; clear hb hbox hg; have hnb10 := NB394_395.out; have hnc10 := NB395_394.out; have hcz11_0 : w9.cell? ⟨gb394, 0, none⟩ = some (.int .i64 a1_0) := (blk_cell BK394.out 0).trans rfl; have hcz11_1 : w9.cell? ⟨gb394, 1, none⟩ = some (.int .i64 a1_1) := (blk_cell BK394.out 1).trans rfl; have hcz11_2 : w9.cell? ⟨gb394, 2, none⟩ = some (.int .i64 a1_2) := (blk_cell BK394.out 2).trans rfl; have hfz11_0 := blk_frozen BK394.out 0; have hfz11_1 := blk_frozen BK394.out 1; have hfz11_2 := blk_frozen BK394.out 2; have hcz12_0 : w9.cell? ⟨gb395, 0, none⟩ = some (.int .i64 a2_0) := (blk_cell BK395.out 0).trans rfl; have hcz12_1 : w9.cell? ⟨gb395, 1, none⟩ = some (.int .i64 a2_1) := (blk_cell BK395.out 1).trans rfl; have hcz12_2 : w9.cell? ⟨gb395, 2, none⟩ = some (.int .i64 a2_2) := (blk_cell BK395.out 2).trans rfl; have hfz12_0 := blk_frozen BK395.out 0; have hfz12_1 := blk_frozen BK395.out 1; have hfz12_2 := blk_frozen BK395.out 2) | (go_at_call 132; (with_reducible refine (spec_l01Power.calls k a0 (wrap64 ((ji4) - a1_2)) t396 _ A5.out).mono ?_); rintro e w' ⟨rfl, ⟨nd, rfl⟩⟩; (try first | exact ⟨rfl, _, World.drewN_drewN _ _ _⟩ | exact ⟨rfl, _, Eq.trans (World.drewN_drewN _ _ _) (congrArg (World.drewN _) (Nat.add_assoc _ _ _))⟩)) | (go_at_call 132; (with_reducible refine (spec_l01Power.calls k a0 (wrap64 ((ji4) - a2_2)) t397 _ A6.out).mono ?_); rintro e w' ⟨rfl, ⟨nd, rfl⟩⟩; (try first | exact ⟨rfl, _, World.drewN_drewN _ _ _⟩ | exact ⟨rfl, _, Eq.trans (World.drewN_drewN _ _ _) (congrArg (World.drewN _) (Nat.add_assoc _ _ _))⟩))); try go_wp2_with (first | ((with_reducible refine gate_dst (N := 4) rfl ?_); refine box_event ?hg (N := 4) ?hd (cs := #[.int .i64 a1_0, .int .i64 a1_1, .int .i64 a1_2]) (t := 34) ?hr ?_; (case hd => rfl); (case hg => rfl); (case hr => first | (go_simp; done) | (go_simp; rfl)); intro gb394 hg w8 hbox hb; have n0_ := Aside0.mk (below_step blA hb); have n1_ := Aside0.mk (hbox); have n2_ := Aside0.mk (szA hg blA); have n3_ := Aside0.mk (szA hg blA); clear HB; have HB := n0_; have BK394 := n1_; have GW394 := n2_; have GE394 := n3_; clear n0_ n1_ n2_ n3_; clear hb hbox hg) | ((with_reducible refine gate_dst (N := 5) rfl ?_); refine box_event ?hg (N := 5) ?hd (cs := #[.int .i64 a2_0, .int .i64 a2_1, .int .i64 a2_2]) (t := 34) ?hr ?_; (case hd => rfl); (case hg => rfl); (case hr => first | (go_simp; done) | (go_simp; rfl)); intro gb395 hg w9 hbox hb; have n0_ := Aside0.mk (blk_below (bkA BK394) hb); have n1_ := Aside0.mk (below_step blA hb); have n2_ := Aside0.mk (hbox); have n3_ := Aside0.mk (szA hg blA); have n4_ := Aside0.mk (szA hg blA); have n5_ := Aside0.mk (neA hg (bkA BK394)); have n6_ := Aside0.mk (neB hg (bkA BK394)); clear BK394; clear HB; have BK394 := n0_; have HB := n1_; have BK395 := n2_; have GW395 := n3_; have GE395 := n4_; have NB394_395 := n5_; have NB395_394 := n6_; clear n0_ n1_ n2_ n3_ n4_ n5_ n6_; clear hb hbox hg; have hnb10 := NB394_395.out; have hnc10 := NB395_394.out; have hcz11_0 : w9.cell? ⟨gb394, 0, none⟩ = some (.int .i64 a1_0) := (blk_cell BK394.out 0).trans rfl; have hcz11_1 : w9.cell? ⟨gb394, 1, none⟩ = some (.int .i64 a1_1) := (blk_cell BK394.out 1).trans rfl; have hcz11_2 : w9.cell? ⟨gb394, 2, none⟩ = some (.int .i64 a1_2) := (blk_cell BK394.out 2).trans rfl; have hfz11_0 := blk_frozen BK394.out 0; have hfz11_1 := blk_frozen BK394.out 1; have hfz11_2 := blk_frozen BK394.out 2; have hcz12_0 : w9.cell? ⟨gb395, 0, none⟩ = some (.int .i64 a2_0) := (blk_cell BK395.out 0).trans rfl; have hcz12_1 : w9.cell? ⟨gb395, 1, none⟩ = some (.int .i64 a2_1) := (blk_cell BK395.out 1).trans rfl; have hcz12_2 : w9.cell? ⟨gb395, 2, none⟩ = some (.int .i64 a2_2) := (blk_cell BK395.out 2).trans rfl; have hfz12_0 := blk_frozen BK395.out 0; have hfz12_1 := blk_frozen BK395.out 1; have hfz12_2 := blk_frozen BK395.out 2) | (go_at_call 132; (with_reducible refine (spec_l01Power.calls k a0 (wrap64 ((ji4) - a1_2)) t396 _ A5.out).mono ?_); rintro e w' ⟨rfl, ⟨nd, rfl⟩⟩; (try first | exact ⟨rfl, _, World.drewN_drewN _ _ _⟩ | exact ⟨rfl, _, Eq.trans (World.drewN_drewN _ _ _) (congrArg (World.drewN _) (Nat.add_assoc _ _ _))⟩)) | (go_at_call 132; (with_reducible refine (spec_l01Power.calls k a0 (wrap64 ((ji4) - a2_2)) t397 _ A6.out).mono ?_); rintro e w' ⟨rfl, ⟨nd, rfl⟩⟩; (try first | exact ⟨rfl, _, World.drewN_drewN _ _ _⟩ | exact ⟨rfl, _, Eq.trans (World.drewN_drewN _ _ _) (congrArg (World.drewN _) (Nat.add_assoc _ _ _))⟩))))
    go_ret2
    exact ⟨by first | rfl | (simp [errW_none, errW_some] <;> rfl) | (simp only [← hji4]; first | rfl | (simp [errW_none, errW_some] <;> rfl)) | (simp [*, errW_none, errW_some] <;> rfl), blA⟩
  · rw [if_neg c7] at H
    have c7b0 : ((wrap64 ((wrap64 (a1_1 * t396)) - (wrap64 (a2_1 * t397)))) == 0) = false := beq_eq_false_iff_ne.mpr c7
    have c7b1 : ((wrap64 ((wrap64 (a1_1 * t396)) - (wrap64 (a2_1 * t397)))) != 0) = true := bne_iff_ne.mpr c7
    replace H := Option.bind_eq_some_iff.mp H
    obtain ⟨t398, A130, H⟩ := H
    replace H : (some (wrap64 (t398 - (ji4)), true)) = some (r1, r2) := H
    have A13 := Aside0.mk A130
    clear A130
    simp only [Option.some.injEq, Prod.mk.injEq] at H
    obtain ⟨rfl, rfl⟩ := H
    go_enter Try.func149, Try.ntmps149
    go_wp2_with (first | ((with_reducible refine gate_dst (N := 4) rfl ?_); refine box_event ?hg (N := 4) ?hd (cs := #[.int .i64 a1_0, .int .i64 a1_1, .int .i64 a1_2]) (t := 34) ?hr ?_; (case hd => rfl); (case hg => rfl); (case hr => first | (go_simp; done) | (go_simp; rfl)); intro gb394 hg w14 hbox hb; have n0_ := Aside0.mk (below_step blA hb); have n1_ := Aside0.mk (hbox); have n2_ := Aside0.mk (szA hg blA); have n3_ := Aside0.mk (szA hg blA); clear HB; have HB := n0_; have BK394 := n1_; have GW394 := n2_; have GE394 := n3_; clear n0_ n1_ n2_ n3_; clear hb hbox hg) | ((with_reducible refine gate_dst (N := 5) rfl ?_); refine box_event ?hg (N := 5) ?hd (cs := #[.int .i64 a2_0, .int .i64 a2_1, .int .i64 a2_2]) (t := 34) ?hr ?_; (case hd => rfl); (case hg => rfl); (case hr => first | (go_simp; done) | (go_simp; rfl)); intro gb395 hg w15 hbox hb; have n0_ := Aside0.mk (blk_below (bkA BK394) hb); have n1_ := Aside0.mk (below_step blA hb); have n2_ := Aside0.mk (hbox); have n3_ := Aside0.mk (szA hg blA); have n4_ := Aside0.mk (szA hg blA); have n5_ := Aside0.mk (neA hg (bkA BK394)); have n6_ := Aside0.mk (neB hg (bkA BK394)); clear BK394; clear HB; have BK394 := n0_; have HB := n1_; have BK395 := n2_; have GW395 := n3_; have GE395 := n4_; have NB394_395 := n5_; have NB395_394 := n6_; clear n0_ n1_ n2_ n3_ n4_ n5_ n6_; clear hb hbox hg; have hnb16 := NB394_395.out; have hnc16 := NB395_394.out; have hcz17_0 : w15.cell? ⟨gb394, 0, none⟩ = some (.int .i64 a1_0) := (blk_cell BK394.out 0).trans rfl; have hcz17_1 : w15.cell? ⟨gb394, 1, none⟩ = some (.int .i64 a1_1) := (blk_cell BK394.out 1).trans rfl; have hcz17_2 : w15.cell? ⟨gb394, 2, none⟩ = some (.int .i64 a1_2) := (blk_cell BK394.out 2).trans rfl; have hfz17_0 := blk_frozen BK394.out 0; have hfz17_1 := blk_frozen BK394.out 1; have hfz17_2 := blk_frozen BK394.out 2; have hcz18_0 : w15.cell? ⟨gb395, 0, none⟩ = some (.int .i64 a2_0) := (blk_cell BK395.out 0).trans rfl; have hcz18_1 : w15.cell? ⟨gb395, 1, none⟩ = some (.int .i64 a2_1) := (blk_cell BK395.out 1).trans rfl; have hcz18_2 : w15.cell? ⟨gb395, 2, none⟩ = some (.int .i64 a2_2) := (blk_cell BK395.out 2).trans rfl; have hfz18_0 := blk_frozen BK395.out 0; have hfz18_1 := blk_frozen BK395.out 1; have hfz18_2 := blk_frozen BK395.out 2) | (go_at_call 132; (with_reducible refine (spec_l01Power.calls k a0 (wrap64 ((ji4) - a1_2)) t396 _ A5.out).mono ?_); rintro e w' ⟨rfl, ⟨nd, rfl⟩⟩; (try first | exact ⟨rfl, _, World.drewN_drewN _ _ _⟩ | exact ⟨rfl, _, Eq.trans (World.drewN_drewN _ _ _) (congrArg (World.drewN _) (Nat.add_assoc _ _ _))⟩)) | (go_at_call 132; (with_reducible refine (spec_l01Power.calls k a0 (wrap64 ((ji4) - a2_2)) t397 _ A6.out).mono ?_); rintro e w' ⟨rfl, ⟨nd, rfl⟩⟩; (try first | exact ⟨rfl, _, World.drewN_drewN _ _ _⟩ | exact ⟨rfl, _, Eq.trans (World.drewN_drewN _ _ _) (congrArg (World.drewN _) (Nat.add_assoc _ _ _))⟩)) | (go_at_call 133; (with_reducible refine (spec_l01Val.calls k a0 (wrap64 ((wrap64 (a1_1 * t396)) - (wrap64 (a2_1 * t397)))) t398 _ A13.out).mono ?_); rintro e w' ⟨rfl, ⟨nd, rfl⟩⟩; (try first | exact ⟨rfl, _, World.drewN_drewN _ _ _⟩ | exact ⟨rfl, _, Eq.trans (World.drewN_drewN _ _ _) (congrArg (World.drewN _) (Nat.add_assoc _ _ _))⟩)))
    repeat (go_quiet (first | ((with_reducible refine gate_dst (N := 4) rfl ?_); refine box_event ?hg (N := 4) ?hd (cs := #[.int .i64 a1_0, .int .i64 a1_1, .int .i64 a1_2]) (t := 34) ?hr ?_; (case hd => rfl); (case hg => rfl); (case hr => first | (go_simp; done) | (go_simp; rfl)); intro gb394 hg w14 hbox hb; have n0_ := Aside0.mk (below_step blA hb); have n1_ := Aside0.mk (hbox); have n2_ := Aside0.mk (szA hg blA); have n3_ := Aside0.mk (szA hg blA); clear HB; have HB := n0_; have BK394 := n1_; have GW394 := n2_; have GE394 := n3_; clear n0_ n1_ n2_ n3_; clear hb hbox hg) | ((with_reducible refine gate_dst (N := 5) rfl ?_); refine box_event ?hg (N := 5) ?hd (cs := #[.int .i64 a2_0, .int .i64 a2_1, .int .i64 a2_2]) (t := 34) ?hr ?_; (case hd => rfl); (case hg => rfl); (case hr => first | (go_simp; done) | (go_simp; rfl)); intro gb395 hg w15 hbox hb; have n0_ := Aside0.mk (blk_below (bkA BK394) hb); have n1_ := Aside0.mk (below_step blA hb); have n2_ := Aside0.mk (hbox); have n3_ := Aside0.mk (szA hg blA); have n4_ := Aside0.mk (szA hg blA); have n5_ := Aside0.mk (neA hg (bkA BK394)); have n6_ := Aside0.mk (neB hg (bkA BK394)); clear BK394; clear HB; have BK394 := n0_; have HB := n1_; have BK395 := n2_; have GW395 := n3_; have GE395 := n4_; have NB394_395 := n5_; have NB395_394 := n6_; clear n0_ n1_ n2_ n3_ n4_ n5_ n6_; clear hb hbox hg; have hnb16 := NB394_395.out; have hnc16 := NB395_394.out; have hcz17_0 : w15.cell? ⟨gb394, 0, none⟩ = some (.int .i64 a1_0) := (blk_cell BK394.out 0).trans rfl; have hcz17_1 : w15.cell? ⟨gb394, 1, none⟩ = some (.int .i64 a1_1) := (blk_cell BK394.out 1).trans rfl; have hcz17_2 : w15.cell? ⟨gb394, 2, none⟩ = some (.int .i64 a1_2) := (blk_cell BK394.out 2).trans rfl; have hfz17_0 := blk_frozen BK394.out 0; have hfz17_1 := blk_frozen BK394.out 1; have hfz17_2 := blk_frozen BK394.out 2; have hcz18_0 : w15.cell? ⟨gb395, 0, none⟩ = some (.int .i64 a2_0) := (blk_cell BK395.out 0).trans rfl; have hcz18_1 : w15.cell? ⟨gb395, 1, none⟩ = some (.int .i64 a2_1) := (blk_cell BK395.out 1).trans rfl; have hcz18_2 : w15.cell? ⟨gb395, 2, none⟩ = some (.int .i64 a2_2) := (blk_cell BK395.out 2).trans rfl; have hfz18_0 := blk_frozen BK395.out 0; have hfz18_1 := blk_frozen BK395.out 1; have hfz18_2 := blk_frozen BK395.out 2) | (go_at_call 132; (with_reducible refine (spec_l01Power.calls k a0 (wrap64 ((ji4) - a1_2)) t396 _ A5.out).mono ?_); rintro e w' ⟨rfl, ⟨nd, rfl⟩⟩; (try first | exact ⟨rfl, _, World.drewN_drewN _ _ _⟩ | exact ⟨rfl, _, Eq.trans (World.drewN_drewN _ _ _) (congrArg (World.drewN _) (Nat.add_assoc _ _ _))⟩)) | (go_at_call 132; (with_reducible refine (spec_l01Power.calls k a0 (wrap64 ((ji4) - a2_2)) t397 _ A6.out).mono ?_); rintro e w' ⟨rfl, ⟨nd, rfl⟩⟩; (try first | exact ⟨rfl, _, World.drewN_drewN _ _ _⟩ | exact ⟨rfl, _, Eq.trans (World.drewN_drewN _ _ _) (congrArg (World.drewN _) (Nat.add_assoc _ _ _))⟩)) | (go_at_call 133; (with_reducible refine (spec_l01Val.calls k a0 (wrap64 ((wrap64 (a1_1 * t396)) - (wrap64 (a2_1 * t397)))) t398 _ A13.out).mono ?_); rintro e w' ⟨rfl, ⟨nd, rfl⟩⟩; (try first | exact ⟨rfl, _, World.drewN_drewN _ _ _⟩ | exact ⟨rfl, _, Eq.trans (World.drewN_drewN _ _ _) (congrArg (World.drewN _) (Nat.add_assoc _ _ _))⟩))); try go_wp2_with (first | ((with_reducible refine gate_dst (N := 4) rfl ?_); refine box_event ?hg (N := 4) ?hd (cs := #[.int .i64 a1_0, .int .i64 a1_1, .int .i64 a1_2]) (t := 34) ?hr ?_; (case hd => rfl); (case hg => rfl); (case hr => first | (go_simp; done) | (go_simp; rfl)); intro gb394 hg w14 hbox hb; have n0_ := Aside0.mk (below_step blA hb); have n1_ := Aside0.mk (hbox); have n2_ := Aside0.mk (szA hg blA); have n3_ := Aside0.mk (szA hg blA); clear HB; have HB := n0_; have BK394 := n1_; have GW394 := n2_; have GE394 := n3_; clear n0_ n1_ n2_ n3_; clear hb hbox hg) | ((with_reducible refine gate_dst (N := 5) rfl ?_); refine box_event ?hg (N := 5) ?hd (cs := #[.int .i64 a2_0, .int .i64 a2_1, .int .i64 a2_2]) (t := 34) ?hr ?_; (case hd => rfl); (case hg => rfl); (case hr => first | (go_simp; done) | (go_simp; rfl)); intro gb395 hg w15 hbox hb; have n0_ := Aside0.mk (blk_below (bkA BK394) hb); have n1_ := Aside0.mk (below_step blA hb); have n2_ := Aside0.mk (hbox); have n3_ := Aside0.mk (szA hg blA); have n4_ := Aside0.mk (szA hg blA); have n5_ := Aside0.mk (neA hg (bkA BK394)); have n6_ := Aside0.mk (neB hg (bkA BK394)); clear BK394; clear HB; have BK394 := n0_; have HB := n1_; have BK395 := n2_; have GW395 := n3_; have GE395 := n4_; have NB394_395 := n5_; have NB395_394 := n6_; clear n0_ n1_ n2_ n3_ n4_ n5_ n6_; clear hb hbox hg; have hnb16 := NB394_395.out; have hnc16 := NB395_394.out; have hcz17_0 : w15.cell? ⟨gb394, 0, none⟩ = some (.int .i64 a1_0) := (blk_cell BK394.out 0).trans rfl; have hcz17_1 : w15.cell? ⟨gb394, 1, none⟩ = some (.int .i64 a1_1) := (blk_cell BK394.out 1).trans rfl; have hcz17_2 : w15.cell? ⟨gb394, 2, none⟩ = some (.int .i64 a1_2) := (blk_cell BK394.out 2).trans rfl; have hfz17_0 := blk_frozen BK394.out 0; have hfz17_1 := blk_frozen BK394.out 1; have hfz17_2 := blk_frozen BK394.out 2; have hcz18_0 : w15.cell? ⟨gb395, 0, none⟩ = some (.int .i64 a2_0) := (blk_cell BK395.out 0).trans rfl; have hcz18_1 : w15.cell? ⟨gb395, 1, none⟩ = some (.int .i64 a2_1) := (blk_cell BK395.out 1).trans rfl; have hcz18_2 : w15.cell? ⟨gb395, 2, none⟩ = some (.int .i64 a2_2) := (blk_cell BK395.out 2).trans rfl; have hfz18_0 := blk_frozen BK395.out 0; have hfz18_1 := blk_frozen BK395.out 1; have hfz18_2 := blk_frozen BK395.out 2) | (go_at_call 132; (with_reducible refine (spec_l01Power.calls k a0 (wrap64 ((ji4) - a1_2)) t396 _ A5.out).mono ?_); rintro e w' ⟨rfl, ⟨nd, rfl⟩⟩; (try first | exact ⟨rfl, _, World.drewN_drewN _ _ _⟩ | exact ⟨rfl, _, Eq.trans (World.drewN_drewN _ _ _) (congrArg (World.drewN _) (Nat.add_assoc _ _ _))⟩)) | (go_at_call 132; (with_reducible refine (spec_l01Power.calls k a0 (wrap64 ((ji4) - a2_2)) t397 _ A6.out).mono ?_); rintro e w' ⟨rfl, ⟨nd, rfl⟩⟩; (try first | exact ⟨rfl, _, World.drewN_drewN _ _ _⟩ | exact ⟨rfl, _, Eq.trans (World.drewN_drewN _ _ _) (congrArg (World.drewN _) (Nat.add_assoc _ _ _))⟩)) | (go_at_call 133; (with_reducible refine (spec_l01Val.calls k a0 (wrap64 ((wrap64 (a1_1 * t396)) - (wrap64 (a2_1 * t397)))) t398 _ A13.out).mono ?_); rintro e w' ⟨rfl, ⟨nd, rfl⟩⟩; (try first | exact ⟨rfl, _, World.drewN_drewN _ _ _⟩ | exact ⟨rfl, _, Eq.trans (World.drewN_drewN _ _ _) (congrArg (World.drewN _) (Nat.add_assoc _ _ _))⟩))))
    go_ret2
    exact ⟨by first | rfl | (simp [errW_none, errW_some] <;> rfl) | (simp only [← hji4]; first | rfl | (simp [errW_none, errW_some] <;> rfl)) | (simp [*, errW_none, errW_some] <;> rfl), blA⟩
/-! ### spec_l02Join: function 122 -/
def spec_l02Join.f (k : Nat) (a0 : Int) (a1_0 : Int) (a1_1 : Int) (a1_2 : Int) (a2_0 : Int) (a2_1 : Int) (a2_2 : Int) : Option (Int) := (spec_l02Valuation.f k a0 a1_0 a1_1 a1_2 a2_0 a2_1 a2_2).bind fun bt401 => (if bt401.2 = true then (some (mn (mn a1_0 a2_0) bt401.1)) else (some (mn a1_0 a2_0)))
theorem spec_l02Join.mono : ∀ a0 a1 a2 a3 a4 a5 a6 k, LeO (spec_l02Join.f k a0 a1 a2 a3 a4 a5 a6) (spec_l02Join.f (k + 1) a0 a1 a2 a3 a4 a5 a6) := by
  intro a0 a1 a2 a3 a4 a5 a6 k
  unfold spec_l02Join.f
  repeat' first
      | (with_reducible exact spec_l02Valuation.mono _ _ _ _ _ _ _ _)
      | (with_reducible exact LeO.refl _)
      | (with_reducible exact LeO.none _)
      | (with_reducible refine LeO.ite ?_ ?_)
      | (with_reducible refine LeO.bind ?_ (fun _ => ?_))
      | exact spec_l02Valuation.mono _ _ _ _ _ _ _ _
      | exact LeO.none _
      | refine LeO.ite ?_ ?_
      | refine LeO.bind ?_ (fun _ => ?_)
set_option maxHeartbeats 8000000 in
set_option maxRecDepth 100000 in
theorem spec_l02Join.calls (k : Nat) (a0 : Int) (a1_0 : Int) (a1_1 : Int) (a1_2 : Int) (a2_0 : Int) (a2_1 : Int) (a2_2 : Int) (r : Int) (w : World) (h : spec_l02Join.f k a0 a1_0 a1_1 a1_2 a2_0 a2_1 a2_2 = some r) :
    Calls Try.prog 122 #[.int .i64 a0, .agg #[.int .i64 a1_0, .int .i64 a1_1, .int .i64 a1_2], .agg #[.int .i64 a2_0, .int .i64 a2_1, .int .i64 a2_2]] w fun e w' => e = .returned (.int .i64 r) ∧ Below w.heap.size w w' := by
  have hu34 := Try.underlying34
  have HB := Aside0.mk (Below.refl w.heap.size w)
  have H : ((spec_l02Valuation.f k a0 a1_0 a1_1 a1_2 a2_0 a2_1 a2_2).bind fun bt401 => (if bt401.2 = true then (some (mn (mn a1_0 a2_0) bt401.1)) else (some (mn a1_0 a2_0)))) = some r := h
  clear h
  obtain ⟨ji4, hji4⟩ : ∃ j_ : Int, (mn a1_0 a2_0) = j_ := ⟨_, rfl⟩
  replace H : ((spec_l02Valuation.f k a0 a1_0 a1_1 a1_2 a2_0 a2_1 a2_2).bind fun bt401 => (if bt401.2 = true then (some (mn (ji4) bt401.1)) else (some ji4))) = some r := by first | (rw [hji4] at H; exact H) | (simp only [hji4] at H ⊢; exact H)
  have hji4_ : (if a2_0 < a1_0 then a2_0 else a1_0) = ji4 := hji4
  replace H := Option.bind_eq_some_iff.mp H
  obtain ⟨⟨t401, t402⟩, A50, H⟩ := H
  replace H : (if t402 = true then (some (mn (ji4) t401)) else (some ji4)) = some r := H
  have A5 := Aside0.mk A50
  clear A50
  by_cases c6 : t402 = true
  · subst c6
    have H1 : (some (mn (ji4) t401)) = some r := by rw [if_pos rfl] at H; exact H
    clear H
    have H := H1
    clear H1
    obtain ⟨ji7, hji7⟩ : ∃ j_ : Int, (mn (ji4) t401) = j_ := ⟨_, rfl⟩
    replace H : (some ji7) = some r := by first | (rw [hji7] at H; exact H) | (simp only [hji7] at H ⊢; exact H)
    (try rw [hji7] at A5)
    have hji7_ : (if t401 < (ji4) then t401 else (ji4)) = ji7 := hji7
    obtain rfl := Option.some.inj H
    go_enter Try.func122, Try.ntmps122
    go_wp2_with (first | ((with_reducible refine gate_dst (N := 4) rfl ?_); refine box_event ?hg (N := 4) ?hd (cs := #[.int .i64 a1_0, .int .i64 a1_1, .int .i64 a1_2]) (t := 34) ?hr ?_; (case hd => rfl); (case hg => rfl); (case hr => first | (go_simp; done) | (go_simp; rfl)); intro gb399 hg w8 hbox hb; have n0_ := Aside0.mk (below_step blA hb); have n1_ := Aside0.mk (hbox); have n2_ := Aside0.mk (szA hg blA); have n3_ := Aside0.mk (szA hg blA); clear HB; have HB := n0_; have BK399 := n1_; have GW399 := n2_; have GE399 := n3_; clear n0_ n1_ n2_ n3_; clear hb hbox hg) | ((with_reducible refine gate_dst (N := 5) rfl ?_); refine box_event ?hg (N := 5) ?hd (cs := #[.int .i64 a2_0, .int .i64 a2_1, .int .i64 a2_2]) (t := 34) ?hr ?_; (case hd => rfl); (case hg => rfl); (case hr => first | (go_simp; done) | (go_simp; rfl)); intro gb400 hg w9 hbox hb; have n0_ := Aside0.mk (blk_below (bkA BK399) hb); have n1_ := Aside0.mk (below_step blA hb); have n2_ := Aside0.mk (hbox); have n3_ := Aside0.mk (szA hg blA); have n4_ := Aside0.mk (szA hg blA); have n5_ := Aside0.mk (neA hg (bkA BK399)); have n6_ := Aside0.mk (neB hg (bkA BK399)); clear BK399; clear HB; have BK399 := n0_; have HB := n1_; have BK400 := n2_; have GW400 := n3_; have GE400 := n4_; have NB399_400 := n5_; have NB400_399 := n6_; clear n0_ n1_ n2_ n3_ n4_ n5_ n6_; clear hb hbox hg; have hnb10 := NB399_400.out; have hnc10 := NB400_399.out; have hcz11_0 : w9.cell? ⟨gb399, 0, none⟩ = some (.int .i64 a1_0) := (blk_cell BK399.out 0).trans rfl; have hcz11_1 : w9.cell? ⟨gb399, 1, none⟩ = some (.int .i64 a1_1) := (blk_cell BK399.out 1).trans rfl; have hcz11_2 : w9.cell? ⟨gb399, 2, none⟩ = some (.int .i64 a1_2) := (blk_cell BK399.out 2).trans rfl; have hfz11_0 := blk_frozen BK399.out 0; have hfz11_1 := blk_frozen BK399.out 1; have hfz11_2 := blk_frozen BK399.out 2; have hcz12_0 : w9.cell? ⟨gb400, 0, none⟩ = some (.int .i64 a2_0) := (blk_cell BK400.out 0).trans rfl; have hcz12_1 : w9.cell? ⟨gb400, 1, none⟩ = some (.int .i64 a2_1) := (blk_cell BK400.out 1).trans rfl; have hcz12_2 : w9.cell? ⟨gb400, 2, none⟩ = some (.int .i64 a2_2) := (blk_cell BK400.out 2).trans rfl; have hfz12_0 := blk_frozen BK400.out 0; have hfz12_1 := blk_frozen BK400.out 1; have hfz12_2 := blk_frozen BK400.out 2) | ((with_reducible refine gate_callee (f := 149) rfl ?_); refine goesL_ (some 19) rfl rfl Try.func149 (by kernel_rfl) rfl #[.int .i64 a0, .agg #[.int .i64 a1_0, .int .i64 a1_1, .int .i64 a1_2], .agg #[.int .i64 a2_0, .int .i64 a2_1, .int .i64 a2_2]] rfl (by (try simp only [List.map_toArray, List.map_cons, List.map_nil]); first | done | rfl | (simp only [List.length_drop, List.length_take]; rfl)) ?_; (with_reducible refine (spec_l02Valuation.calls k a0 a1_0 a1_1 a1_2 a2_0 a2_1 a2_2 t401 true _ A5.out).mono ?_); rintro e w13 ⟨rfl, hb⟩; refine ⟨_, rfl, ?_⟩; have n0_ := Aside0.mk (blk_below (bkA BK399) hb); have n1_ := Aside0.mk (blk_below (bkA BK400) hb); have n2_ := Aside0.mk (below_step blA hb); clear BK399; clear BK400; clear HB; have BK399 := n0_; have BK400 := n1_; have HB := n2_; clear n0_ n1_ n2_; (try clear hb); (try clear hb2); (try clear hk); (try clear hi)))
    go_ret
    exact ⟨by first | rfl | (simp [errW_none, errW_some] <;> rfl) | (simp only [← hji4, ← hji7]; first | rfl | (simp [errW_none, errW_some] <;> rfl)) | (simp [*, errW_none, errW_some] <;> rfl), blA⟩
  · replace c6 := Bool.eq_false_iff.mpr c6
    subst c6
    have H1 : (some ji4) = some r := by rw [if_neg (show ¬ (false = true) by decide)] at H; exact H
    clear H
    have H := H1
    clear H1
    obtain rfl := Option.some.inj H
    go_enter Try.func122, Try.ntmps122
    go_wp2_with (first | ((with_reducible refine gate_dst (N := 4) rfl ?_); refine box_event ?hg (N := 4) ?hd (cs := #[.int .i64 a1_0, .int .i64 a1_1, .int .i64 a1_2]) (t := 34) ?hr ?_; (case hd => rfl); (case hg => rfl); (case hr => first | (go_simp; done) | (go_simp; rfl)); intro gb399 hg w14 hbox hb; have n0_ := Aside0.mk (below_step blA hb); have n1_ := Aside0.mk (hbox); have n2_ := Aside0.mk (szA hg blA); have n3_ := Aside0.mk (szA hg blA); clear HB; have HB := n0_; have BK399 := n1_; have GW399 := n2_; have GE399 := n3_; clear n0_ n1_ n2_ n3_; clear hb hbox hg) | ((with_reducible refine gate_dst (N := 5) rfl ?_); refine box_event ?hg (N := 5) ?hd (cs := #[.int .i64 a2_0, .int .i64 a2_1, .int .i64 a2_2]) (t := 34) ?hr ?_; (case hd => rfl); (case hg => rfl); (case hr => first | (go_simp; done) | (go_simp; rfl)); intro gb400 hg w15 hbox hb; have n0_ := Aside0.mk (blk_below (bkA BK399) hb); have n1_ := Aside0.mk (below_step blA hb); have n2_ := Aside0.mk (hbox); have n3_ := Aside0.mk (szA hg blA); have n4_ := Aside0.mk (szA hg blA); have n5_ := Aside0.mk (neA hg (bkA BK399)); have n6_ := Aside0.mk (neB hg (bkA BK399)); clear BK399; clear HB; have BK399 := n0_; have HB := n1_; have BK400 := n2_; have GW400 := n3_; have GE400 := n4_; have NB399_400 := n5_; have NB400_399 := n6_; clear n0_ n1_ n2_ n3_ n4_ n5_ n6_; clear hb hbox hg; have hnb16 := NB399_400.out; have hnc16 := NB400_399.out; have hcz17_0 : w15.cell? ⟨gb399, 0, none⟩ = some (.int .i64 a1_0) := (blk_cell BK399.out 0).trans rfl; have hcz17_1 : w15.cell? ⟨gb399, 1, none⟩ = some (.int .i64 a1_1) := (blk_cell BK399.out 1).trans rfl; have hcz17_2 : w15.cell? ⟨gb399, 2, none⟩ = some (.int .i64 a1_2) := (blk_cell BK399.out 2).trans rfl; have hfz17_0 := blk_frozen BK399.out 0; have hfz17_1 := blk_frozen BK399.out 1; have hfz17_2 := blk_frozen BK399.out 2; have hcz18_0 : w15.cell? ⟨gb400, 0, none⟩ = some (.int .i64 a2_0) := (blk_cell BK400.out 0).trans rfl; have hcz18_1 : w15.cell? ⟨gb400, 1, none⟩ = some (.int .i64 a2_1) := (blk_cell BK400.out 1).trans rfl; have hcz18_2 : w15.cell? ⟨gb400, 2, none⟩ = some (.int .i64 a2_2) := (blk_cell BK400.out 2).trans rfl; have hfz18_0 := blk_frozen BK400.out 0; have hfz18_1 := blk_frozen BK400.out 1; have hfz18_2 := blk_frozen BK400.out 2) | ((with_reducible refine gate_callee (f := 149) rfl ?_); refine goesL_ (some 19) rfl rfl Try.func149 (by kernel_rfl) rfl #[.int .i64 a0, .agg #[.int .i64 a1_0, .int .i64 a1_1, .int .i64 a1_2], .agg #[.int .i64 a2_0, .int .i64 a2_1, .int .i64 a2_2]] rfl (by (try simp only [List.map_toArray, List.map_cons, List.map_nil]); first | done | rfl | (simp only [List.length_drop, List.length_take]; rfl)) ?_; (with_reducible refine (spec_l02Valuation.calls k a0 a1_0 a1_1 a1_2 a2_0 a2_1 a2_2 t401 false _ A5.out).mono ?_); rintro e w19 ⟨rfl, hb⟩; refine ⟨_, rfl, ?_⟩; have n0_ := Aside0.mk (blk_below (bkA BK399) hb); have n1_ := Aside0.mk (blk_below (bkA BK400) hb); have n2_ := Aside0.mk (below_step blA hb); clear BK399; clear BK400; clear HB; have BK399 := n0_; have BK400 := n1_; have HB := n2_; clear n0_ n1_ n2_; (try clear hb); (try clear hb2); (try clear hk); (try clear hi)))
    go_ret
    exact ⟨by first | rfl | (simp [errW_none, errW_some] <;> rfl) | (simp only [← hji4]; first | rfl | (simp [errW_none, errW_some] <;> rfl)) | (simp [*, errW_none, errW_some] <;> rfl), blA⟩
/-! ### impl_joinLevel: function 125 -/
def impl_joinLevel.f (k : Nat) (a0 : Int) (a1_0 : Int) (a1_1 : Int) (a1_2 : Int) (a2_0 : Int) (a2_1 : Int) (a2_2 : Int) : Option (Int) := (impl_mark.f k a0 a1_0 a1_1 a1_2).bind fun t479 => ((impl_mark.f k a0 a2_0 a2_1 a2_2).bind fun t480 => ((impl_valuation.f k a0 (wrap64 (t479 - t480))).bind fun t481 => (some (mn (mn a1_0 a2_0) (wrap64 (t481 - 6))))))
theorem impl_joinLevel.mono : ∀ a0 a1 a2 a3 a4 a5 a6 k, LeO (impl_joinLevel.f k a0 a1 a2 a3 a4 a5 a6) (impl_joinLevel.f (k + 1) a0 a1 a2 a3 a4 a5 a6) := by
  intro a0 a1 a2 a3 a4 a5 a6 k
  unfold impl_joinLevel.f
  repeat' first
      | (with_reducible exact impl_mark.mono _ _ _ _ _)
      | (with_reducible exact impl_valuation.mono _ _ _)
      | (with_reducible exact LeO.refl _)
      | (with_reducible exact LeO.none _)
      | (with_reducible refine LeO.ite ?_ ?_)
      | (with_reducible refine LeO.bind ?_ (fun _ => ?_))
      | exact impl_mark.mono _ _ _ _ _
      | exact impl_valuation.mono _ _ _
      | exact LeO.none _
      | refine LeO.ite ?_ ?_
      | refine LeO.bind ?_ (fun _ => ?_)
def impl_joinLevel.T1 : Bool × List (List Nat × List Nat) := (true, [([], []), ([0], [0]), ([], []), ([2], [2]), ([], []), ([], []), ([], []), ([5, 6], [5, 6]), ([], []), ([], []), ([8, 9, 7], [8, 9]), ([7, 10], [7, 10]), ([4, 11, 10], [4, 11]), ([12], [12]), ([1, 3, 13], [1, 3, 13]), ([14, 12, 0, 1, 2, 3, 4, 5, 6, 7, 8, 9, 10, 11, 12, 13, 14], [14])])
def impl_joinLevel.B1 : List Nat := [0, 1, 0, 4, 0, 0, 0, 96, 0, 0, 992, 2016, 4080, 8176, 16383, 32767]
theorem impl_joinLevel.tab1 : rtab .any (opsOf Try.f125 1) = impl_joinLevel.T1 := by kernel_rfl
theorem impl_joinLevel.bits1 : waitsOk impl_joinLevel.T1.2 impl_joinLevel.B1 = true := by kernel_rfl
set_option maxHeartbeats 8000000 in
set_option maxRecDepth 100000 in
theorem impl_joinLevel.calls (k : Nat) (a0 : Int) (a1_0 : Int) (a1_1 : Int) (a1_2 : Int) (a2_0 : Int) (a2_1 : Int) (a2_2 : Int) (r : Int) (w : World) (h : impl_joinLevel.f k a0 a1_0 a1_1 a1_2 a2_0 a2_1 a2_2 = some r) :
    Calls Try.prog 125 #[.int .i64 a0, .agg #[.int .i64 a1_0, .int .i64 a1_1, .int .i64 a1_2], .agg #[.int .i64 a2_0, .int .i64 a2_1, .int .i64 a2_2]] w fun e w' => e = .returned (.int .i64 r) ∧ Below w.heap.size w w' := by
  have hu34 := Try.underlying34
  have HB := Aside0.mk (Below.refl w.heap.size w)
  have H : ((impl_mark.f k a0 a1_0 a1_1 a1_2).bind fun t479 => ((impl_mark.f k a0 a2_0 a2_1 a2_2).bind fun t480 => ((impl_valuation.f k a0 (wrap64 (t479 - t480))).bind fun t481 => (some (mn (mn a1_0 a2_0) (wrap64 (t481 - 6))))))) = some r := h
  clear h
  replace H := Option.bind_eq_some_iff.mp H
  obtain ⟨t479, A40, H⟩ := H
  replace H : ((impl_mark.f k a0 a2_0 a2_1 a2_2).bind fun t480 => ((impl_valuation.f k a0 (wrap64 (t479 - t480))).bind fun t481 => (some (mn (mn a1_0 a2_0) (wrap64 (t481 - 6)))))) = some r := H
  have A4 := Aside0.mk A40
  clear A40
  replace H := Option.bind_eq_some_iff.mp H
  obtain ⟨t480, A50, H⟩ := H
  replace H : ((impl_valuation.f k a0 (wrap64 (t479 - t480))).bind fun t481 => (some (mn (mn a1_0 a2_0) (wrap64 (t481 - 6))))) = some r := H
  have A5 := Aside0.mk A50
  clear A50
  replace H := Option.bind_eq_some_iff.mp H
  obtain ⟨t481, A60, H⟩ := H
  replace H : (some (mn (mn a1_0 a2_0) (wrap64 (t481 - 6)))) = some r := H
  have A6 := Aside0.mk A60
  clear A60
  obtain ⟨ji7, hji7⟩ : ∃ j_ : Int, (mn a1_0 a2_0) = j_ := ⟨_, rfl⟩
  replace H : (some (mn (ji7) (wrap64 (t481 - 6)))) = some r := by first | (rw [hji7] at H; exact H) | (simp only [hji7] at H ⊢; exact H)
  (try rw [hji7] at A4)
  (try rw [hji7] at A5)
  (try rw [hji7] at A6)
  have hji7_ : (if a2_0 < a1_0 then a2_0 else a1_0) = ji7 := hji7
  obtain ⟨ji8, hji8⟩ : ∃ j_ : Int, (mn (ji7) (wrap64 (t481 - 6))) = j_ := ⟨_, rfl⟩
  replace H : (some ji8) = some r := by first | (rw [hji8] at H; exact H) | (simp only [hji8] at H ⊢; exact H)
  (try rw [hji8] at A4)
  (try rw [hji8] at A5)
  (try rw [hji8] at A6)
  have hji8_ : (if (wrap64 (t481 - 6)) < (ji7) then (wrap64 (t481 - 6)) else (ji7)) = ji8 := hji8
  obtain rfl := Option.some.inj H
  go_enter Try.func125, Try.ntmps125
  try go_wp2_with (first | ((with_reducible refine gate_dst (N := 4) rfl ?_); refine box_event ?hg (N := 4) ?hd (cs := #[.int .i64 a1_0, .int .i64 a1_1, .int .i64 a1_2]) (t := 34) ?hr ?_; (case hd => rfl); (case hg => rfl); (case hr => first | (go_simp; done) | (go_simp; rfl)); intro gb477 hg w9 hbox hb; have n0_ := Aside0.mk (below_step blA hb); have n1_ := Aside0.mk (hbox); have n2_ := Aside0.mk (szA hg blA); have n3_ := Aside0.mk (szA hg blA); clear HB; have HB := n0_; have BK477 := n1_; have GW477 := n2_; have GE477 := n3_; clear n0_ n1_ n2_ n3_; clear hb hbox hg) | ((with_reducible refine gate_dst (N := 5) rfl ?_); refine box_event ?hg (N := 5) ?hd (cs := #[.int .i64 a2_0, .int .i64 a2_1, .int .i64 a2_2]) (t := 34) ?hr ?_; (case hd => rfl); (case hg => rfl); (case hr => first | (go_simp; done) | (go_simp; rfl)); intro gb478 hg w10 hbox hb; have n0_ := Aside0.mk (blk_below (bkA BK477) hb); have n1_ := Aside0.mk (below_step blA hb); have n2_ := Aside0.mk (hbox); have n3_ := Aside0.mk (szA hg blA); have n4_ := Aside0.mk (szA hg blA); have n5_ := Aside0.mk (neA hg (bkA BK477)); have n6_ := Aside0.mk (neB hg (bkA BK477)); clear BK477; clear HB; have BK477 := n0_; have HB := n1_; have BK478 := n2_; have GW478 := n3_; have GE478 := n4_; have NB477_478 := n5_; have NB478_477 := n6_; clear n0_ n1_ n2_ n3_ n4_ n5_ n6_; clear hb hbox hg))
  have n0_ := Aside0.mk (blk_drew BK477.out)
  have n1_ := Aside0.mk (blk_drew BK478.out)
  have n2_ := Aside0.mk (below_drew1 HB.out)
  clear BK477
  clear BK478
  clear HB
  have BK477 := n0_
  have BK478 := n1_
  have HB := n2_
  clear n0_ n1_ n2_
  refine start_ (n := 16) (S := fun w' => w'.cell? ⟨gb477, 0, none⟩ = some (.int .i64 a1_0) ∧ w'.cell? ⟨gb477, 1, none⟩ = some (.int .i64 a1_1) ∧ w'.cell? ⟨gb477, 2, none⟩ = some (.int .i64 a1_2) ∧ w'.cell? ⟨gb478, 0, none⟩ = some (.int .i64 a2_0) ∧ w'.cell? ⟨gb478, 1, none⟩ = some (.int .i64 a2_1) ∧ w'.cell? ⟨gb478, 2, none⟩ = some (.int .i64 a2_2)) (ds := []) #[false, false, false, false, false, false, false, false, false, false, false, false, false, false, false, false] (by kernel_rfl) rfl rfl ⟨(blk_cell BK477.out 0).trans rfl, (blk_cell BK477.out 1).trans rfl, (blk_cell BK477.out 2).trans rfl, (blk_cell BK478.out 0).trans rfl, (blk_cell BK478.out 1).trans rfl, (blk_cell BK478.out 2).trans rfl⟩ (fun hHeld => ?_); refine with_tabW impl_joinLevel.tab1 impl_joinLevel.bits1 (fun HT_ HW_ => ?_)
  generalize w10.drew = w11 at BK477 BK478 HB hHeld ⊢
  refine pure_ (i := 0) (N := some 7) (v := ?_) (a' := ?_) #[true, false, false, false, false, false, false, false, false, false, false, false, false, false, false, false] rfl rfl (any_of HT_.out (by kernel_rfl)) (fun _ _ _ h => h) (Or.inl ⟨by rfl, ?_⟩) ?_ ?_
  rotate_left
  · intro w'
    go_simp
    with_reducible rfl
  rotate_left
  · simp only [Act.put, List.setIfInBounds_toArray, List.set_cons_zero, List.set_cons_succ, i64_w, i32_w]
    rfl
  refine pure_ (i := 2) (N := some 9) (v := ?_) (a' := ?_) #[true, false, true, false, false, false, false, false, false, false, false, false, false, false, false, false] rfl rfl (any_of HT_.out (by kernel_rfl)) (fun _ _ _ h => h) (Or.inl ⟨by rfl, ?_⟩) ?_ ?_
  rotate_left
  · intro w'
    go_simp
    with_reducible rfl
  rotate_left
  · simp only [Act.put, List.setIfInBounds_toArray, List.set_cons_zero, List.set_cons_succ, i64_w, i32_w]
    rfl
  refine pure_ (i := 4) (N := some 11) (v := ?_) (a' := ?_) #[true, false, true, false, true, false, false, false, false, false, false, false, false, false, false, false] rfl rfl (any_of HT_.out (by kernel_rfl)) (fun _ _ _ h => h) (Or.inl ⟨by rfl, ?_⟩) ?_ ?_
  rotate_left
  · intro w'
    go_simp
    with_reducible rfl
  rotate_left
  · simp only [Act.put, List.setIfInBounds_toArray, List.set_cons_zero, List.set_cons_succ, i64_w, i32_w]
    rfl
  refine pure_ (i := 5) (N := some 12) (v := ?_) (a' := ?_) #[true, false, true, false, true, true, false, false, false, false, false, false, false, false, false, false] rfl rfl (any_of HT_.out (by kernel_rfl)) (fun _ _ _ h => h) (Or.inl ⟨by rfl, ?_⟩) ?_ ?_
  rotate_left
  · intro w'
    go_simp
    with_reducible rfl
  rotate_left
  · simp only [Act.put, List.setIfInBounds_toArray, List.set_cons_zero, List.set_cons_succ, i64_w, i32_w]
    rfl
  refine pure_ (i := 8) (N := some 15) (v := ?_) (a' := ?_) #[true, false, true, false, true, true, false, false, true, false, false, false, false, false, false, false] rfl rfl (any_of HT_.out (by kernel_rfl)) (fun _ _ _ h => h) (Or.inl ⟨by rfl, ?_⟩) ?_ ?_
  rotate_left
  · intro w'
    go_simp
    with_reducible rfl
  rotate_left
  · simp only [Act.put, List.setIfInBounds_toArray, List.set_cons_zero, List.set_cons_succ, i64_w, i32_w]
    rfl
  refine take_ (i := 1) (N := some 8) (v := ?_) (a' := ?_) #[true, true, true, false, true, true, false, false, true, false, false, false, false, false, false, false] rfl rfl (take_ofW HT_.out HW_.out (by kernel_rfl)) (fun _ _ _ h => h) (Or.inl ⟨by rfl, ?_⟩) hHeld ?_ ?_
  rotate_left
  · rintro w' ⟨s0, s1, s2, s3, s4, s5⟩
    go_simp
    with_reducible rfl
  rotate_left
  · simp only [Act.put, List.setIfInBounds_toArray, List.set_cons_zero, List.set_cons_succ, i64_w, i32_w]
    rfl
  refine take_ (i := 3) (N := some 10) (v := ?_) (a' := ?_) #[true, true, true, true, true, true, false, false, true, false, false, false, false, false, false, false] rfl rfl (take_ofW HT_.out HW_.out (by kernel_rfl)) (fun _ _ _ h => h) (Or.inl ⟨by rfl, ?_⟩) hHeld ?_ ?_
  rotate_left
  · rintro w' ⟨s0, s1, s2, s3, s4, s5⟩
    go_simp
    with_reducible rfl
  rotate_left
  · simp only [Act.put, List.setIfInBounds_toArray, List.set_cons_zero, List.set_cons_succ, i64_w, i32_w]
    rfl
  refine take_ (i := 6) (N := some 13) (v := ?_) (a' := ?_) #[true, true, true, true, true, true, true, false, true, false, false, false, false, false, false, false] rfl rfl (take_ofW HT_.out HW_.out (by kernel_rfl)) (fun _ _ _ h => h) (Or.inl ⟨by rfl, ?_⟩) hHeld ?_ ?_
  rotate_left
  · rintro w' ⟨s0, s1, s2, s3, s4, s5⟩
    go_simp
    with_reducible rfl
  rotate_left
  · simp only [Act.put, List.setIfInBounds_toArray, List.set_cons_zero, List.set_cons_succ, i64_w, i32_w]
    rfl
  refine take_ (i := 9) (N := some 16) (v := ?_) (a' := ?_) #[true, true, true, true, true, true, true, false, true, true, false, false, false, false, false, false] rfl rfl (take_ofW HT_.out HW_.out (by kernel_rfl)) (fun _ _ _ h => h) (Or.inl ⟨by rfl, ?_⟩) hHeld ?_ ?_
  rotate_left
  · rintro w' ⟨s0, s1, s2, s3, s4, s5⟩
    go_simp
    with_reducible rfl
  rotate_left
  · simp only [Act.put, List.setIfInBounds_toArray, List.set_cons_zero, List.set_cons_succ, i64_w, i32_w]
    rfl
  refine one_ (i := 7) (N := some 14) #[true, true, true, true, true, true, true, true, true, true, false, false, false, false, false, false] rfl rfl (one_of HT_.out (by kernel_rfl)) (by decide) (fun K hK => ?_)
  refine goes_ Try.func112 (by kernel_rfl) rfl #[.int .i64 a0, .agg #[.int .i64 a1_0, .int .i64 a1_1, .int .i64 a1_2]] (by rfl) rfl rfl (by (try simp only [List.map_toArray, List.map_cons, List.map_nil]); first | done | rfl | (simp only [List.length_drop, List.length_take]; rfl)) ?_
  with_reducible refine (impl_mark.calls k a0 a1_0 a1_1 a1_2 t479 _ A4.out).mono ?_
  rintro e w12 ⟨rfl, hb⟩
  refine ⟨_, rfl, ?_⟩
  have n0_ := Aside0.mk (blk_below (bkA BK477) hb)
  have n1_ := Aside0.mk (blk_below (bkA BK478) hb)
  have n2_ := Aside0.mk (below_step blA hb)
  clear BK477
  clear BK478
  clear HB
  have BK477 := n0_
  have BK478 := n1_
  have HB := n2_
  clear n0_ n1_ n2_
  (try clear hb)
  (try clear hb2)
  (try clear hk)
  (try clear hi)
  refine hK.out _ _ ⟨(blk_cell BK477.out 0).trans rfl, (blk_cell BK477.out 1).trans rfl, (blk_cell BK477.out 2).trans rfl, (blk_cell BK478.out 0).trans rfl, (blk_cell BK478.out 1).trans rfl, (blk_cell BK478.out 2).trans rfl⟩ (fun hHeld => ?_)
  clear hK K
  refine norm_ (a' := ?_) ?_ ?_
  rotate_left
  · show Act.put _ (some 14) _ = _
    simp only [Act.put, List.setIfInBounds_toArray, List.set_cons_zero, List.set_cons_succ, i64_w, i32_w]
    rfl
  refine one_ (i := 10) (N := some 17) #[true, true, true, true, true, true, true, true, true, true, true, false, false, false, false, false] rfl rfl (one_of HT_.out (by kernel_rfl)) (by decide) (fun K hK => ?_)
  refine goes_ Try.func112 (by kernel_rfl) rfl #[.int .i64 a0, .agg #[.int .i64 a2_0, .int .i64 a2_1, .int .i64 a2_2]] (by rfl) rfl rfl (by (try simp only [List.map_toArray, List.map_cons, List.map_nil]); first | done | rfl | (simp only [List.length_drop, List.length_take]; rfl)) ?_
  with_reducible refine (impl_mark.calls k a0 a2_0 a2_1 a2_2 t480 _ A5.out).mono ?_
  rintro e w13 ⟨rfl, hb⟩
  refine ⟨_, rfl, ?_⟩
  have n0_ := Aside0.mk (blk_below (bkA BK477) hb)
  have n1_ := Aside0.mk (blk_below (bkA BK478) hb)
  have n2_ := Aside0.mk (below_step blA hb)
  clear BK477
  clear BK478
  clear HB
  have BK477 := n0_
  have BK478 := n1_
  have HB := n2_
  clear n0_ n1_ n2_
  (try clear hb)
  (try clear hb2)
  (try clear hk)
  (try clear hi)
  refine hK.out _ _ ⟨(blk_cell BK477.out 0).trans rfl, (blk_cell BK477.out 1).trans rfl, (blk_cell BK477.out 2).trans rfl, (blk_cell BK478.out 0).trans rfl, (blk_cell BK478.out 1).trans rfl, (blk_cell BK478.out 2).trans rfl⟩ (fun hHeld => ?_)
  clear hK K
  refine norm_ (a' := ?_) ?_ ?_
  rotate_left
  · show Act.put _ (some 17) _ = _
    simp only [Act.put, List.setIfInBounds_toArray, List.set_cons_zero, List.set_cons_succ, i64_w, i32_w]
    rfl
  refine pure_ (i := 11) (N := some 18) (v := ?_) (a' := ?_) #[true, true, true, true, true, true, true, true, true, true, true, true, false, false, false, false] rfl rfl (any_of HT_.out (by kernel_rfl)) (fun _ _ _ h => h) (Or.inl ⟨by rfl, ?_⟩) ?_ ?_
  rotate_left
  · intro w'
    go_simp
    with_reducible rfl
  rotate_left
  · simp only [Act.put, List.setIfInBounds_toArray, List.set_cons_zero, List.set_cons_succ, i64_w, i32_w]
    rfl
  refine one_ (i := 12) (N := some 19) #[true, true, true, true, true, true, true, true, true, true, true, true, true, false, false, false] rfl rfl (one_of HT_.out (by kernel_rfl)) (by decide) (fun K hK => ?_)
  refine goes_ Try.func137 (by kernel_rfl) rfl #[.int .i64 a0, .int .i64 (wrap64 (t479 - t480))] (by rfl) rfl rfl (by (try simp only [List.map_toArray, List.map_cons, List.map_nil]); first | done | rfl | (simp only [List.length_drop, List.length_take]; rfl)) ?_
  with_reducible refine (impl_valuation.calls k a0 (wrap64 (t479 - t480)) t481 _ A6.out).mono ?_
  rintro e w' ⟨rfl, ⟨nd, rfl⟩⟩
  refine ⟨_, rfl, ?_⟩
  refine hK.out _ _ ⟨(blk_cell BK477.out 0).trans rfl, (blk_cell BK477.out 1).trans rfl, (blk_cell BK477.out 2).trans rfl, (blk_cell BK478.out 0).trans rfl, (blk_cell BK478.out 1).trans rfl, (blk_cell BK478.out 2).trans rfl⟩ (fun hHeld => ?_)
  clear hK K
  refine norm_ (a' := ?_) ?_ ?_
  rotate_left
  · show Act.put _ (some 19) _ = _
    simp only [Act.put, List.setIfInBounds_toArray, List.set_cons_zero, List.set_cons_succ, i64_w, i32_w]
    rfl
  refine pure_ (i := 13) (N := some 20) (v := ?_) (a' := ?_) #[true, true, true, true, true, true, true, true, true, true, true, true, true, true, false, false] rfl rfl (any_of HT_.out (by kernel_rfl)) (fun _ _ _ h => h) (Or.inl ⟨by rfl, ?_⟩) ?_ ?_
  rotate_left
  · intro w'
    go_simp
    with_reducible rfl
  rotate_left
  · simp only [Act.put, List.setIfInBounds_toArray, List.set_cons_zero, List.set_cons_succ, i64_w, i32_w]
    rfl
  refine pure_ (i := 14) (N := some 21) (v := ?_) (a' := ?_) #[true, true, true, true, true, true, true, true, true, true, true, true, true, true, true, false] rfl rfl (any_of HT_.out (by kernel_rfl)) (fun _ _ _ h => h) (Or.inl ⟨by rfl, ?_⟩) ?_ ?_
  rotate_left
  · intro w'
    go_simp
    with_reducible rfl
  rotate_left
  · simp only [Act.put, List.setIfInBounds_toArray, List.set_cons_zero, List.set_cons_succ, i64_w, i32_w]
    rfl
  refine pure_ (i := 15) (N := some 6) (v := ?_) (a' := ?_) #[true, true, true, true, true, true, true, true, true, true, true, true, true, true, true, true] rfl rfl (any_of HT_.out (by kernel_rfl)) (fun _ _ _ h => h) (Or.inl ⟨by rfl, ?_⟩) ?_ ?_
  rotate_left
  · intro w'
    go_simp
    with_reducible rfl
  rotate_left
  · simp only [Act.put, List.setIfInBounds_toArray, List.set_cons_zero, List.set_cons_succ, i64_w, i32_w]
    rfl
  refine done_ (done_of HT_.out (by kernel_rfl)) ?_
  try go_wp2
  go_ret
  exact ⟨by first | rfl | (simp [errW_none, errW_some] <;> rfl) | (simp only [← hji7, ← hji8]; first | rfl | (simp [errW_none, errW_some] <;> rfl)) | (simp [*, errW_none, errW_some] <;> rfl), blA⟩
/-! ### spec_l02Distance: function 66 -/
def spec_l02Distance.f (k : Nat) (a0 : Int) (a1_0 : Int) (a1_1 : Int) (a1_2 : Int) (a2_0 : Int) (a2_1 : Int) (a2_2 : Int) : Option (Int) := (spec_l02Join.f k a0 a1_0 a1_1 a1_2 a2_0 a2_1 a2_2).bind fun t405 => (some (wrap64 ((wrap64 (a1_0 + a2_0)) - (wrap64 (2 * t405)))))
theorem spec_l02Distance.mono : ∀ a0 a1 a2 a3 a4 a5 a6 k, LeO (spec_l02Distance.f k a0 a1 a2 a3 a4 a5 a6) (spec_l02Distance.f (k + 1) a0 a1 a2 a3 a4 a5 a6) := by
  intro a0 a1 a2 a3 a4 a5 a6 k
  unfold spec_l02Distance.f
  repeat' first
      | (with_reducible exact spec_l02Join.mono _ _ _ _ _ _ _ _)
      | (with_reducible exact LeO.refl _)
      | (with_reducible exact LeO.none _)
      | (with_reducible refine LeO.ite ?_ ?_)
      | (with_reducible refine LeO.bind ?_ (fun _ => ?_))
      | exact spec_l02Join.mono _ _ _ _ _ _ _ _
      | exact LeO.none _
      | refine LeO.ite ?_ ?_
      | refine LeO.bind ?_ (fun _ => ?_)
def spec_l02Distance.T1 : Bool × List (List Nat × List Nat) := (true, [([], []), ([0], [0]), ([], []), ([2], [2]), ([1, 3], [1, 3]), ([], []), ([], []), ([], []), ([5, 6, 7], [5, 6, 7]), ([8], [8]), ([4, 9], [4, 9]), ([10, 8, 0, 1, 2, 3, 4, 5, 6, 7, 8, 9, 10], [10])])
def spec_l02Distance.B1 : List Nat := [0, 1, 0, 4, 15, 0, 0, 0, 224, 480, 1023, 2047]
theorem spec_l02Distance.tab1 : rtab .any (opsOf Try.f66 1) = spec_l02Distance.T1 := by kernel_rfl
theorem spec_l02Distance.bits1 : waitsOk spec_l02Distance.T1.2 spec_l02Distance.B1 = true := by kernel_rfl
set_option maxHeartbeats 8000000 in
set_option maxRecDepth 100000 in
theorem spec_l02Distance.calls (k : Nat) (a0 : Int) (a1_0 : Int) (a1_1 : Int) (a1_2 : Int) (a2_0 : Int) (a2_1 : Int) (a2_2 : Int) (r : Int) (w : World) (h : spec_l02Distance.f k a0 a1_0 a1_1 a1_2 a2_0 a2_1 a2_2 = some r) :
    Calls Try.prog 66 #[.int .i64 a0, .agg #[.int .i64 a1_0, .int .i64 a1_1, .int .i64 a1_2], .agg #[.int .i64 a2_0, .int .i64 a2_1, .int .i64 a2_2]] w fun e w' => e = .returned (.int .i64 r) ∧ Below w.heap.size w w' := by
  have hu34 := Try.underlying34
  have HB := Aside0.mk (Below.refl w.heap.size w)
  have H : ((spec_l02Join.f k a0 a1_0 a1_1 a1_2 a2_0 a2_1 a2_2).bind fun t405 => (some (wrap64 ((wrap64 (a1_0 + a2_0)) - (wrap64 (2 * t405)))))) = some r := h
  clear h
  replace H := Option.bind_eq_some_iff.mp H
  obtain ⟨t405, A40, H⟩ := H
  replace H : (some (wrap64 ((wrap64 (a1_0 + a2_0)) - (wrap64 (2 * t405))))) = some r := H
  have A4 := Aside0.mk A40
  clear A40
  obtain rfl := Option.some.inj H
  go_enter Try.func66, Try.ntmps66
  try go_wp2_with (first | ((with_reducible refine gate_dst (N := 4) rfl ?_); refine box_event ?hg (N := 4) ?hd (cs := #[.int .i64 a1_0, .int .i64 a1_1, .int .i64 a1_2]) (t := 34) ?hr ?_; (case hd => rfl); (case hg => rfl); (case hr => first | (go_simp; done) | (go_simp; rfl)); intro gb403 hg w5 hbox hb; have n0_ := Aside0.mk (below_step blA hb); have n1_ := Aside0.mk (hbox); have n2_ := Aside0.mk (szA hg blA); have n3_ := Aside0.mk (szA hg blA); clear HB; have HB := n0_; have BK403 := n1_; have GW403 := n2_; have GE403 := n3_; clear n0_ n1_ n2_ n3_; clear hb hbox hg) | ((with_reducible refine gate_dst (N := 5) rfl ?_); refine box_event ?hg (N := 5) ?hd (cs := #[.int .i64 a2_0, .int .i64 a2_1, .int .i64 a2_2]) (t := 34) ?hr ?_; (case hd => rfl); (case hg => rfl); (case hr => first | (go_simp; done) | (go_simp; rfl)); intro gb404 hg w6 hbox hb; have n0_ := Aside0.mk (blk_below (bkA BK403) hb); have n1_ := Aside0.mk (below_step blA hb); have n2_ := Aside0.mk (hbox); have n3_ := Aside0.mk (szA hg blA); have n4_ := Aside0.mk (szA hg blA); have n5_ := Aside0.mk (neA hg (bkA BK403)); have n6_ := Aside0.mk (neB hg (bkA BK403)); clear BK403; clear HB; have BK403 := n0_; have HB := n1_; have BK404 := n2_; have GW404 := n3_; have GE404 := n4_; have NB403_404 := n5_; have NB404_403 := n6_; clear n0_ n1_ n2_ n3_ n4_ n5_ n6_; clear hb hbox hg))
  have n0_ := Aside0.mk (blk_drew BK403.out)
  have n1_ := Aside0.mk (blk_drew BK404.out)
  have n2_ := Aside0.mk (below_drew1 HB.out)
  clear BK403
  clear BK404
  clear HB
  have BK403 := n0_
  have BK404 := n1_
  have HB := n2_
  clear n0_ n1_ n2_
  refine start_ (n := 12) (S := fun w' => w'.cell? ⟨gb403, 0, none⟩ = some (.int .i64 a1_0) ∧ w'.cell? ⟨gb403, 1, none⟩ = some (.int .i64 a1_1) ∧ w'.cell? ⟨gb403, 2, none⟩ = some (.int .i64 a1_2) ∧ w'.cell? ⟨gb404, 0, none⟩ = some (.int .i64 a2_0) ∧ w'.cell? ⟨gb404, 1, none⟩ = some (.int .i64 a2_1) ∧ w'.cell? ⟨gb404, 2, none⟩ = some (.int .i64 a2_2)) (ds := []) #[false, false, false, false, false, false, false, false, false, false, false, false] (by kernel_rfl) rfl rfl ⟨(blk_cell BK403.out 0).trans rfl, (blk_cell BK403.out 1).trans rfl, (blk_cell BK403.out 2).trans rfl, (blk_cell BK404.out 0).trans rfl, (blk_cell BK404.out 1).trans rfl, (blk_cell BK404.out 2).trans rfl⟩ (fun hHeld => ?_); refine with_tabW spec_l02Distance.tab1 spec_l02Distance.bits1 (fun HT_ HW_ => ?_)
  generalize w6.drew = w7 at BK403 BK404 HB hHeld ⊢
  refine pure_ (i := 0) (N := some 7) (v := ?_) (a' := ?_) #[true, false, false, false, false, false, false, false, false, false, false, false] rfl rfl (any_of HT_.out (by kernel_rfl)) (fun _ _ _ h => h) (Or.inl ⟨by rfl, ?_⟩) ?_ ?_
  rotate_left
  · intro w'
    go_simp
    with_reducible rfl
  rotate_left
  · simp only [Act.put, List.setIfInBounds_toArray, List.set_cons_zero, List.set_cons_succ, i64_w, i32_w]
    rfl
  refine pure_ (i := 2) (N := some 9) (v := ?_) (a' := ?_) #[true, false, true, false, false, false, false, false, false, false, false, false] rfl rfl (any_of HT_.out (by kernel_rfl)) (fun _ _ _ h => h) (Or.inl ⟨by rfl, ?_⟩) ?_ ?_
  rotate_left
  · intro w'
    go_simp
    with_reducible rfl
  rotate_left
  · simp only [Act.put, List.setIfInBounds_toArray, List.set_cons_zero, List.set_cons_succ, i64_w, i32_w]
    rfl
  refine pure_ (i := 5) (N := some 12) (v := ?_) (a' := ?_) #[true, false, true, false, false, true, false, false, false, false, false, false] rfl rfl (any_of HT_.out (by kernel_rfl)) (fun _ _ _ h => h) (Or.inl ⟨by rfl, ?_⟩) ?_ ?_
  rotate_left
  · intro w'
    go_simp
    with_reducible rfl
  rotate_left
  · simp only [Act.put, List.setIfInBounds_toArray, List.set_cons_zero, List.set_cons_succ, i64_w, i32_w]
    rfl
  refine take_ (i := 1) (N := some 8) (v := ?_) (a' := ?_) #[true, true, true, false, false, true, false, false, false, false, false, false] rfl rfl (take_ofW HT_.out HW_.out (by kernel_rfl)) (fun _ _ _ h => h) (Or.inl ⟨by rfl, ?_⟩) hHeld ?_ ?_
  rotate_left
  · rintro w' ⟨s0, s1, s2, s3, s4, s5⟩
    go_simp
    with_reducible rfl
  rotate_left
  · simp only [Act.put, List.setIfInBounds_toArray, List.set_cons_zero, List.set_cons_succ, i64_w, i32_w]
    rfl
  refine take_ (i := 3) (N := some 10) (v := ?_) (a' := ?_) #[true, true, true, true, false, true, false, false, false, false, false, false] rfl rfl (take_ofW HT_.out HW_.out (by kernel_rfl)) (fun _ _ _ h => h) (Or.inl ⟨by rfl, ?_⟩) hHeld ?_ ?_
  rotate_left
  · rintro w' ⟨s0, s1, s2, s3, s4, s5⟩
    go_simp
    with_reducible rfl
  rotate_left
  · simp only [Act.put, List.setIfInBounds_toArray, List.set_cons_zero, List.set_cons_succ, i64_w, i32_w]
    rfl
  refine pure_ (i := 4) (N := some 11) (v := ?_) (a' := ?_) #[true, true, true, true, true, true, false, false, false, false, false, false] rfl rfl (any_of HT_.out (by kernel_rfl)) (fun _ _ _ h => h) (Or.inl ⟨by rfl, ?_⟩) ?_ ?_
  rotate_left
  · intro w'
    go_simp
    with_reducible rfl
  rotate_left
  · simp only [Act.put, List.setIfInBounds_toArray, List.set_cons_zero, List.set_cons_succ, i64_w, i32_w]
    rfl
  refine take_ (i := 6) (N := some 13) (v := ?_) (a' := ?_) #[true, true, true, true, true, true, true, false, false, false, false, false] rfl rfl (take_ofW HT_.out HW_.out (by kernel_rfl)) (fun _ _ _ h => h) (Or.inl ⟨by rfl, ?_⟩) hHeld ?_ ?_
  rotate_left
  · rintro w' ⟨s0, s1, s2, s3, s4, s5⟩
    go_simp
    with_reducible rfl
  rotate_left
  · simp only [Act.put, List.setIfInBounds_toArray, List.set_cons_zero, List.set_cons_succ, i64_w, i32_w]
    rfl
  refine take_ (i := 7) (N := some 14) (v := ?_) (a' := ?_) #[true, true, true, true, true, true, true, true, false, false, false, false] rfl rfl (take_ofW HT_.out HW_.out (by kernel_rfl)) (fun _ _ _ h => h) (Or.inl ⟨by rfl, ?_⟩) hHeld ?_ ?_
  rotate_left
  · rintro w' ⟨s0, s1, s2, s3, s4, s5⟩
    go_simp
    with_reducible rfl
  rotate_left
  · simp only [Act.put, List.setIfInBounds_toArray, List.set_cons_zero, List.set_cons_succ, i64_w, i32_w]
    rfl
  refine one_ (i := 8) (N := some 15) #[true, true, true, true, true, true, true, true, true, false, false, false] rfl rfl (one_of HT_.out (by kernel_rfl)) (by decide) (fun K hK => ?_)
  refine goes_ Try.func122 (by kernel_rfl) rfl #[.int .i64 a0, .agg #[.int .i64 a1_0, .int .i64 a1_1, .int .i64 a1_2], .agg #[.int .i64 a2_0, .int .i64 a2_1, .int .i64 a2_2]] (by rfl) rfl rfl (by (try simp only [List.map_toArray, List.map_cons, List.map_nil]); first | done | rfl | (simp only [List.length_drop, List.length_take]; rfl)) ?_
  with_reducible refine (spec_l02Join.calls k a0 a1_0 a1_1 a1_2 a2_0 a2_1 a2_2 t405 _ A4.out).mono ?_
  rintro e w8 ⟨rfl, hb⟩
  refine ⟨_, rfl, ?_⟩
  have n0_ := Aside0.mk (blk_below (bkA BK403) hb)
  have n1_ := Aside0.mk (blk_below (bkA BK404) hb)
  have n2_ := Aside0.mk (below_step blA hb)
  clear BK403
  clear BK404
  clear HB
  have BK403 := n0_
  have BK404 := n1_
  have HB := n2_
  clear n0_ n1_ n2_
  (try clear hb)
  (try clear hb2)
  (try clear hk)
  (try clear hi)
  refine hK.out _ _ ⟨(blk_cell BK403.out 0).trans rfl, (blk_cell BK403.out 1).trans rfl, (blk_cell BK403.out 2).trans rfl, (blk_cell BK404.out 0).trans rfl, (blk_cell BK404.out 1).trans rfl, (blk_cell BK404.out 2).trans rfl⟩ (fun hHeld => ?_)
  clear hK K
  refine norm_ (a' := ?_) ?_ ?_
  rotate_left
  · show Act.put _ (some 15) _ = _
    simp only [Act.put, List.setIfInBounds_toArray, List.set_cons_zero, List.set_cons_succ, i64_w, i32_w]
    rfl
  refine pure_ (i := 9) (N := some 16) (v := ?_) (a' := ?_) #[true, true, true, true, true, true, true, true, true, true, false, false] rfl rfl (any_of HT_.out (by kernel_rfl)) (fun _ _ _ h => h) (Or.inl ⟨by rfl, ?_⟩) ?_ ?_
  rotate_left
  · intro w'
    go_simp
    with_reducible rfl
  rotate_left
  · simp only [Act.put, List.setIfInBounds_toArray, List.set_cons_zero, List.set_cons_succ, i64_w, i32_w]
    rfl
  refine pure_ (i := 10) (N := some 17) (v := ?_) (a' := ?_) #[true, true, true, true, true, true, true, true, true, true, true, false] rfl rfl (any_of HT_.out (by kernel_rfl)) (fun _ _ _ h => h) (Or.inl ⟨by rfl, ?_⟩) ?_ ?_
  rotate_left
  · intro w'
    go_simp
    with_reducible rfl
  rotate_left
  · simp only [Act.put, List.setIfInBounds_toArray, List.set_cons_zero, List.set_cons_succ, i64_w, i32_w]
    rfl
  refine pure_ (i := 11) (N := some 6) (v := ?_) (a' := ?_) #[true, true, true, true, true, true, true, true, true, true, true, true] rfl rfl (any_of HT_.out (by kernel_rfl)) (fun _ _ _ h => h) (Or.inl ⟨by rfl, ?_⟩) ?_ ?_
  rotate_left
  · intro w'
    go_simp
    with_reducible rfl
  rotate_left
  · simp only [Act.put, List.setIfInBounds_toArray, List.set_cons_zero, List.set_cons_succ, i64_w, i32_w]
    rfl
  refine done_ (done_of HT_.out (by kernel_rfl)) ?_
  try go_wp2
  go_ret
  exact ⟨by first | rfl | (simp [errW_none, errW_some] <;> rfl) | (simp [*, errW_none, errW_some] <;> rfl), blA⟩
/-! ### impl_distance: function 70 -/
def impl_distance.f (k : Nat) (a0 : Int) (a1_0 : Int) (a1_1 : Int) (a1_2 : Int) (a2_0 : Int) (a2_1 : Int) (a2_2 : Int) : Option (Int) := (impl_joinLevel.f k a0 a1_0 a1_1 a1_2 a2_0 a2_1 a2_2).bind fun t484 => (some (wrap64 ((wrap64 (a1_0 + a2_0)) - (wrap64 (2 * t484)))))
theorem impl_distance.mono : ∀ a0 a1 a2 a3 a4 a5 a6 k, LeO (impl_distance.f k a0 a1 a2 a3 a4 a5 a6) (impl_distance.f (k + 1) a0 a1 a2 a3 a4 a5 a6) := by
  intro a0 a1 a2 a3 a4 a5 a6 k
  unfold impl_distance.f
  repeat' first
      | (with_reducible exact impl_joinLevel.mono _ _ _ _ _ _ _ _)
      | (with_reducible exact LeO.refl _)
      | (with_reducible exact LeO.none _)
      | (with_reducible refine LeO.ite ?_ ?_)
      | (with_reducible refine LeO.bind ?_ (fun _ => ?_))
      | exact impl_joinLevel.mono _ _ _ _ _ _ _ _
      | exact LeO.none _
      | refine LeO.ite ?_ ?_
      | refine LeO.bind ?_ (fun _ => ?_)
def impl_distance.T1 : Bool × List (List Nat × List Nat) := (true, [([], []), ([0], [0]), ([], []), ([2], [2]), ([1, 3], [1, 3]), ([], []), ([], []), ([], []), ([5, 6, 7], [5, 6, 7]), ([8], [8]), ([4, 9], [4, 9]), ([10, 8, 0, 1, 2, 3, 4, 5, 6, 7, 8, 9, 10], [10])])
def impl_distance.B1 : List Nat := [0, 1, 0, 4, 15, 0, 0, 0, 224, 480, 1023, 2047]
theorem impl_distance.tab1 : rtab .any (opsOf Try.f70 1) = impl_distance.T1 := by kernel_rfl
theorem impl_distance.bits1 : waitsOk impl_distance.T1.2 impl_distance.B1 = true := by kernel_rfl
set_option maxHeartbeats 8000000 in
set_option maxRecDepth 100000 in
theorem impl_distance.calls (k : Nat) (a0 : Int) (a1_0 : Int) (a1_1 : Int) (a1_2 : Int) (a2_0 : Int) (a2_1 : Int) (a2_2 : Int) (r : Int) (w : World) (h : impl_distance.f k a0 a1_0 a1_1 a1_2 a2_0 a2_1 a2_2 = some r) :
    Calls Try.prog 70 #[.int .i64 a0, .agg #[.int .i64 a1_0, .int .i64 a1_1, .int .i64 a1_2], .agg #[.int .i64 a2_0, .int .i64 a2_1, .int .i64 a2_2]] w fun e w' => e = .returned (.int .i64 r) ∧ Below w.heap.size w w' := by
  have hu34 := Try.underlying34
  have HB := Aside0.mk (Below.refl w.heap.size w)
  have H : ((impl_joinLevel.f k a0 a1_0 a1_1 a1_2 a2_0 a2_1 a2_2).bind fun t484 => (some (wrap64 ((wrap64 (a1_0 + a2_0)) - (wrap64 (2 * t484)))))) = some r := h
  clear h
  replace H := Option.bind_eq_some_iff.mp H
  obtain ⟨t484, A40, H⟩ := H
  replace H : (some (wrap64 ((wrap64 (a1_0 + a2_0)) - (wrap64 (2 * t484))))) = some r := H
  have A4 := Aside0.mk A40
  clear A40
  obtain rfl := Option.some.inj H
  go_enter Try.func70, Try.ntmps70
  try go_wp2_with (first | ((with_reducible refine gate_dst (N := 4) rfl ?_); refine box_event ?hg (N := 4) ?hd (cs := #[.int .i64 a1_0, .int .i64 a1_1, .int .i64 a1_2]) (t := 34) ?hr ?_; (case hd => rfl); (case hg => rfl); (case hr => first | (go_simp; done) | (go_simp; rfl)); intro gb482 hg w5 hbox hb; have n0_ := Aside0.mk (below_step blA hb); have n1_ := Aside0.mk (hbox); have n2_ := Aside0.mk (szA hg blA); have n3_ := Aside0.mk (szA hg blA); clear HB; have HB := n0_; have BK482 := n1_; have GW482 := n2_; have GE482 := n3_; clear n0_ n1_ n2_ n3_; clear hb hbox hg) | ((with_reducible refine gate_dst (N := 5) rfl ?_); refine box_event ?hg (N := 5) ?hd (cs := #[.int .i64 a2_0, .int .i64 a2_1, .int .i64 a2_2]) (t := 34) ?hr ?_; (case hd => rfl); (case hg => rfl); (case hr => first | (go_simp; done) | (go_simp; rfl)); intro gb483 hg w6 hbox hb; have n0_ := Aside0.mk (blk_below (bkA BK482) hb); have n1_ := Aside0.mk (below_step blA hb); have n2_ := Aside0.mk (hbox); have n3_ := Aside0.mk (szA hg blA); have n4_ := Aside0.mk (szA hg blA); have n5_ := Aside0.mk (neA hg (bkA BK482)); have n6_ := Aside0.mk (neB hg (bkA BK482)); clear BK482; clear HB; have BK482 := n0_; have HB := n1_; have BK483 := n2_; have GW483 := n3_; have GE483 := n4_; have NB482_483 := n5_; have NB483_482 := n6_; clear n0_ n1_ n2_ n3_ n4_ n5_ n6_; clear hb hbox hg))
  have n0_ := Aside0.mk (blk_drew BK482.out)
  have n1_ := Aside0.mk (blk_drew BK483.out)
  have n2_ := Aside0.mk (below_drew1 HB.out)
  clear BK482
  clear BK483
  clear HB
  have BK482 := n0_
  have BK483 := n1_
  have HB := n2_
  clear n0_ n1_ n2_
  refine start_ (n := 12) (S := fun w' => w'.cell? ⟨gb482, 0, none⟩ = some (.int .i64 a1_0) ∧ w'.cell? ⟨gb482, 1, none⟩ = some (.int .i64 a1_1) ∧ w'.cell? ⟨gb482, 2, none⟩ = some (.int .i64 a1_2) ∧ w'.cell? ⟨gb483, 0, none⟩ = some (.int .i64 a2_0) ∧ w'.cell? ⟨gb483, 1, none⟩ = some (.int .i64 a2_1) ∧ w'.cell? ⟨gb483, 2, none⟩ = some (.int .i64 a2_2)) (ds := []) #[false, false, false, false, false, false, false, false, false, false, false, false] (by kernel_rfl) rfl rfl ⟨(blk_cell BK482.out 0).trans rfl, (blk_cell BK482.out 1).trans rfl, (blk_cell BK482.out 2).trans rfl, (blk_cell BK483.out 0).trans rfl, (blk_cell BK483.out 1).trans rfl, (blk_cell BK483.out 2).trans rfl⟩ (fun hHeld => ?_); refine with_tabW impl_distance.tab1 impl_distance.bits1 (fun HT_ HW_ => ?_)
  generalize w6.drew = w7 at BK482 BK483 HB hHeld ⊢
  refine pure_ (i := 0) (N := some 7) (v := ?_) (a' := ?_) #[true, false, false, false, false, false, false, false, false, false, false, false] rfl rfl (any_of HT_.out (by kernel_rfl)) (fun _ _ _ h => h) (Or.inl ⟨by rfl, ?_⟩) ?_ ?_
  rotate_left
  · intro w'
    go_simp
    with_reducible rfl
  rotate_left
  · simp only [Act.put, List.setIfInBounds_toArray, List.set_cons_zero, List.set_cons_succ, i64_w, i32_w]
    rfl
  refine pure_ (i := 2) (N := some 9) (v := ?_) (a' := ?_) #[true, false, true, false, false, false, false, false, false, false, false, false] rfl rfl (any_of HT_.out (by kernel_rfl)) (fun _ _ _ h => h) (Or.inl ⟨by rfl, ?_⟩) ?_ ?_
  rotate_left
  · intro w'
    go_simp
    with_reducible rfl
  rotate_left
  · simp only [Act.put, List.setIfInBounds_toArray, List.set_cons_zero, List.set_cons_succ, i64_w, i32_w]
    rfl
  refine pure_ (i := 5) (N := some 12) (v := ?_) (a' := ?_) #[true, false, true, false, false, true, false, false, false, false, false, false] rfl rfl (any_of HT_.out (by kernel_rfl)) (fun _ _ _ h => h) (Or.inl ⟨by rfl, ?_⟩) ?_ ?_
  rotate_left
  · intro w'
    go_simp
    with_reducible rfl
  rotate_left
  · simp only [Act.put, List.setIfInBounds_toArray, List.set_cons_zero, List.set_cons_succ, i64_w, i32_w]
    rfl
  refine take_ (i := 1) (N := some 8) (v := ?_) (a' := ?_) #[true, true, true, false, false, true, false, false, false, false, false, false] rfl rfl (take_ofW HT_.out HW_.out (by kernel_rfl)) (fun _ _ _ h => h) (Or.inl ⟨by rfl, ?_⟩) hHeld ?_ ?_
  rotate_left
  · rintro w' ⟨s0, s1, s2, s3, s4, s5⟩
    go_simp
    with_reducible rfl
  rotate_left
  · simp only [Act.put, List.setIfInBounds_toArray, List.set_cons_zero, List.set_cons_succ, i64_w, i32_w]
    rfl
  refine take_ (i := 3) (N := some 10) (v := ?_) (a' := ?_) #[true, true, true, true, false, true, false, false, false, false, false, false] rfl rfl (take_ofW HT_.out HW_.out (by kernel_rfl)) (fun _ _ _ h => h) (Or.inl ⟨by rfl, ?_⟩) hHeld ?_ ?_
  rotate_left
  · rintro w' ⟨s0, s1, s2, s3, s4, s5⟩
    go_simp
    with_reducible rfl
  rotate_left
  · simp only [Act.put, List.setIfInBounds_toArray, List.set_cons_zero, List.set_cons_succ, i64_w, i32_w]
    rfl
  refine pure_ (i := 4) (N := some 11) (v := ?_) (a' := ?_) #[true, true, true, true, true, true, false, false, false, false, false, false] rfl rfl (any_of HT_.out (by kernel_rfl)) (fun _ _ _ h => h) (Or.inl ⟨by rfl, ?_⟩) ?_ ?_
  rotate_left
  · intro w'
    go_simp
    with_reducible rfl
  rotate_left
  · simp only [Act.put, List.setIfInBounds_toArray, List.set_cons_zero, List.set_cons_succ, i64_w, i32_w]
    rfl
  refine take_ (i := 6) (N := some 13) (v := ?_) (a' := ?_) #[true, true, true, true, true, true, true, false, false, false, false, false] rfl rfl (take_ofW HT_.out HW_.out (by kernel_rfl)) (fun _ _ _ h => h) (Or.inl ⟨by rfl, ?_⟩) hHeld ?_ ?_
  rotate_left
  · rintro w' ⟨s0, s1, s2, s3, s4, s5⟩
    go_simp
    with_reducible rfl
  rotate_left
  · simp only [Act.put, List.setIfInBounds_toArray, List.set_cons_zero, List.set_cons_succ, i64_w, i32_w]
    rfl
  refine take_ (i := 7) (N := some 14) (v := ?_) (a' := ?_) #[true, true, true, true, true, true, true, true, false, false, false, false] rfl rfl (take_ofW HT_.out HW_.out (by kernel_rfl)) (fun _ _ _ h => h) (Or.inl ⟨by rfl, ?_⟩) hHeld ?_ ?_
  rotate_left
  · rintro w' ⟨s0, s1, s2, s3, s4, s5⟩
    go_simp
    with_reducible rfl
  rotate_left
  · simp only [Act.put, List.setIfInBounds_toArray, List.set_cons_zero, List.set_cons_succ, i64_w, i32_w]
    rfl
  refine one_ (i := 8) (N := some 15) #[true, true, true, true, true, true, true, true, true, false, false, false] rfl rfl (one_of HT_.out (by kernel_rfl)) (by decide) (fun K hK => ?_)
  refine goes_ Try.func125 (by kernel_rfl) rfl #[.int .i64 a0, .agg #[.int .i64 a1_0, .int .i64 a1_1, .int .i64 a1_2], .agg #[.int .i64 a2_0, .int .i64 a2_1, .int .i64 a2_2]] (by rfl) rfl rfl (by (try simp only [List.map_toArray, List.map_cons, List.map_nil]); first | done | rfl | (simp only [List.length_drop, List.length_take]; rfl)) ?_
  with_reducible refine (impl_joinLevel.calls k a0 a1_0 a1_1 a1_2 a2_0 a2_1 a2_2 t484 _ A4.out).mono ?_
  rintro e w8 ⟨rfl, hb⟩
  refine ⟨_, rfl, ?_⟩
  have n0_ := Aside0.mk (blk_below (bkA BK482) hb)
  have n1_ := Aside0.mk (blk_below (bkA BK483) hb)
  have n2_ := Aside0.mk (below_step blA hb)
  clear BK482
  clear BK483
  clear HB
  have BK482 := n0_
  have BK483 := n1_
  have HB := n2_
  clear n0_ n1_ n2_
  (try clear hb)
  (try clear hb2)
  (try clear hk)
  (try clear hi)
  refine hK.out _ _ ⟨(blk_cell BK482.out 0).trans rfl, (blk_cell BK482.out 1).trans rfl, (blk_cell BK482.out 2).trans rfl, (blk_cell BK483.out 0).trans rfl, (blk_cell BK483.out 1).trans rfl, (blk_cell BK483.out 2).trans rfl⟩ (fun hHeld => ?_)
  clear hK K
  refine norm_ (a' := ?_) ?_ ?_
  rotate_left
  · show Act.put _ (some 15) _ = _
    simp only [Act.put, List.setIfInBounds_toArray, List.set_cons_zero, List.set_cons_succ, i64_w, i32_w]
    rfl
  refine pure_ (i := 9) (N := some 16) (v := ?_) (a' := ?_) #[true, true, true, true, true, true, true, true, true, true, false, false] rfl rfl (any_of HT_.out (by kernel_rfl)) (fun _ _ _ h => h) (Or.inl ⟨by rfl, ?_⟩) ?_ ?_
  rotate_left
  · intro w'
    go_simp
    with_reducible rfl
  rotate_left
  · simp only [Act.put, List.setIfInBounds_toArray, List.set_cons_zero, List.set_cons_succ, i64_w, i32_w]
    rfl
  refine pure_ (i := 10) (N := some 17) (v := ?_) (a' := ?_) #[true, true, true, true, true, true, true, true, true, true, true, false] rfl rfl (any_of HT_.out (by kernel_rfl)) (fun _ _ _ h => h) (Or.inl ⟨by rfl, ?_⟩) ?_ ?_
  rotate_left
  · intro w'
    go_simp
    with_reducible rfl
  rotate_left
  · simp only [Act.put, List.setIfInBounds_toArray, List.set_cons_zero, List.set_cons_succ, i64_w, i32_w]
    rfl
  refine pure_ (i := 11) (N := some 6) (v := ?_) (a' := ?_) #[true, true, true, true, true, true, true, true, true, true, true, true] rfl rfl (any_of HT_.out (by kernel_rfl)) (fun _ _ _ h => h) (Or.inl ⟨by rfl, ?_⟩) ?_ ?_
  rotate_left
  · intro w'
    go_simp
    with_reducible rfl
  rotate_left
  · simp only [Act.put, List.setIfInBounds_toArray, List.set_cons_zero, List.set_cons_succ, i64_w, i32_w]
    rfl
  refine done_ (done_of HT_.out (by kernel_rfl)) ?_
  try go_wp2
  go_ret
  exact ⟨by first | rfl | (simp [errW_none, errW_some] <;> rfl) | (simp [*, errW_none, errW_some] <;> rfl), blA⟩
end Go.Proofs.Ytfkglijnbgijbaa.PAll
