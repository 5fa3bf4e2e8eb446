-- turned for this claim out of the kit's print: the same functions, packed anew
import Derived.Test.YtfkglijnbgijbaaQx
import Derived.Test.YtfkglijnbgijbaaQimplmark
import Derived.Test.YtfkglijnbgijbaaQimplofMark
import Derived.Test.YtfkglijnbgijbaaQimplpower
import Derived.Test.YtfkglijnbgijbaaQimplvaluation
import Derived.Test.YtfkglijnbgijbaaQspecl01Code
namespace Go.Proofs.Ytfkglijnbgijbaa.PAll
open Go.RowKit Go.Proofs.YtfkglijnbgijbaaW.PrintWords Go.Proofs.YtfkglijnbgijbaaW.PrintLast Go.Proofs.YtfkglijnbgijbaaW.PrintMore
attribute [local go_sem] Go.Proofs.Ytfkglijnbgijbaa.Aux.setCell_drewN Go.Proofs.Ytfkglijnbgijbaa.Aux.isSome_setCell Go.Proofs.Ytfkglijnbgijbaa.Aux.max_eight max2_int min2_int max_two min_two max_three min_three max_four min_four   -- for this text's walks alone
set_option linter.unusedVariables false
set_option linter.unusedSimpArgs false
/-! ### spec_l02Valuation: function 149 -/
def spec_l02Valuation.f (k : Nat) (a0 : Int) (a1_0 : Int) (a1_1 : Int) (a1_2 : Int) (a2_0 : Int) (a2_1 : Int) (a2_2 : Int) : Option (Int × Bool) := (spec_l01Power.f k a0 (wrap64 ((mx a1_2 a2_2) - a1_2))).bind fun t396 => ((spec_l01Power.f k a0 (wrap64 ((mx a1_2 a2_2) - a2_2))).bind fun t397 => (if (wrap64 ((wrap64 (a1_1 * t396)) - (wrap64 (a2_1 * t397)))) = 0 then (some (0, false)) else ((spec_l01Val.f k a0 (wrap64 ((wrap64 (a1_1 * t396)) - (wrap64 (a2_1 * t397))))).bind fun t398 => (some (wrap64 (t398 - (mx a1_2 a2_2)), true)))))
theorem spec_l02Valuation.mono : ∀ a0 a1 a2 a3 a4 a5 a6 k, LeO (spec_l02Valuation.f k a0 a1 a2 a3 a4 a5 a6) (spec_l02Valuation.f (k + 1) a0 a1 a2 a3 a4 a5 a6) := by
  intro a0 a1 a2 a3 a4 a5 a6 k
  unfold spec_l02Valuation.f
  repeat' first
      | (with_reducible exact spec_l01Power.mono _ _ _)
      | (with_reducible exact spec_l01Val.mono _ _ _)
      | (with_reducible exact LeO.refl _)
      | (with_reducible exact LeO.none _)
      | (with_reducible refine LeO.ite ?_ ?_)
      | (with_reducible refine LeO.bind ?_ (fun _ => ?_))
      | exact spec_l01Power.mono _ _ _
      | exact spec_l01Val.mono _ _ _
      | exact LeO.none _
      | refine LeO.ite ?_ ?_
      | refine LeO.bind ?_ (fun _ => ?_)
set_option maxHeartbeats 8000000 in
set_option maxRecDepth 100000 in
theorem spec_l02Valuation.calls (k : Nat) (a0 : Int) (a1_0 : Int) (a1_1 : Int) (a1_2 : Int) (a2_0 : Int) (a2_1 : Int) (a2_2 : Int) (r1 : Int) (r2 : Bool) (w : World) (h : spec_l02Valuation.f k a0 a1_0 a1_1 a1_2 a2_0 a2_1 a2_2 = some (r1, r2)) :
    Calls Try.prog 149 #[.int .i64 a0, .agg #[.int .i64 a1_0, .int .i64 a1_1, .int .i64 a1_2], .agg #[.int .i64 a2_0, .int .i64 a2_1, .int .i64 a2_2]] w fun e w' => e = .returned (.tuple #[.int .i64 r1, .bool r2]) ∧ Below w.heap.size w w' := by
  have hu34 := Try.underlying34
  have HB := Aside0.mk (Below.refl w.heap.size w)
  have H : ((spec_l01Power.f k a0 (wrap64 ((mx a1_2 a2_2) - a1_2))).bind fun t396 => ((spec_l01Power.f k a0 (wrap64 ((mx a1_2 a2_2) - a2_2))).bind fun t397 => (if (wrap64 ((wrap64 (a1_1 * t396)) - (wrap64 (a2_1 * t397)))) = 0 then (some (0, false)) else ((spec_l01Val.f k a0 (wrap64 ((wrap64 (a1_1 * t396)) - (wrap64 (a2_1 * t397))))).bind fun t398 => (some (wrap64 (t398 - (mx a1_2 a2_2)), true)))))) = some (r1, r2) := h
  clear h
  obtain ⟨ji4, hji4⟩ : ∃ j_ : Int, (mx a1_2 a2_2) = j_ := ⟨_, rfl⟩
  replace H : ((spec_l01Power.f k a0 (wrap64 ((ji4) - a1_2))).bind fun t396 => ((spec_l01Power.f k a0 (wrap64 ((ji4) - a2_2))).bind fun t397 => (if (wrap64 ((wrap64 (a1_1 * t396)) - (wrap64 (a2_1 * t397)))) = 0 then (some (0, false)) else ((spec_l01Val.f k a0 (wrap64 ((wrap64 (a1_1 * t396)) - (wrap64 (a2_1 * t397))))).bind fun t398 => (some (wrap64 (t398 - (ji4)), true)))))) = some (r1, r2) := by first | (rw [hji4] at H; exact H) | (simp only [hji4] at H ⊢; exact H)
  have hji4_ : (if a1_2 < a2_2 then a2_2 else a1_2) = ji4 := hji4
  replace H := Option.bind_eq_some_iff.mp H
  obtain ⟨t396, A50, H⟩ := H
  replace H : ((spec_l01Power.f k a0 (wrap64 ((ji4) - a2_2))).bind fun t397 => (if (wrap64 ((wrap64 (a1_1 * t396)) - (wrap64 (a2_1 * t397)))) = 0 then (some (0, false)) else ((spec_l01Val.f k a0 (wrap64 ((wrap64 (a1_1 * t396)) - (wrap64 (a2_1 * t397))))).bind fun t398 => (some (wrap64 (t398 - (ji4)), true))))) = some (r1, r2) := H
  have A5 := Aside0.mk A50
  clear A50
  replace H := Option.bind_eq_some_iff.mp H
  obtain ⟨t397, A60, H⟩ := H
  replace H : (if (wrap64 ((wrap64 (a1_1 * t396)) - (wrap64 (a2_1 * t397)))) = 0 then (some (0, false)) else ((spec_l01Val.f k a0 (wrap64 ((wrap64 (a1_1 * t396)) - (wrap64 (a2_1 * t397))))).bind fun t398 => (some (wrap64 (t398 - (ji4)), true)))) = some (r1, r2) := H
  have A6 := Aside0.mk A60
  clear A60
  by_cases c7 : (wrap64 ((wrap64 (a1_1 * t396)) - (wrap64 (a2_1 * t397)))) = 0
  · rw [if_pos c7] at H
    have c7b0 : ((wrap64 ((wrap64 (a1_1 * t396)) - (wrap64 (a2_1 * t397)))) == 0) = true := beq_iff_eq.mpr c7
    have c7b1 : ((wrap64 ((wrap64 (a1_1 * t396)) - (wrap64 (a2_1 * t397)))) != 0) = false := bne_eq_false_iff_eq.mpr c7
    clear c7
    simp only [Option.some.injEq, Prod.mk.injEq] at H
    obtain ⟨rfl, rfl⟩ := H
    go_enter Try.func149, Try.ntmps149
    go_wp2_with (first | ((with_reducible refine gate_dst (N := 4) rfl ?_); refine box_event ?hg (N := 4) ?hd (cs := #[.int .i64 a1_0, .int .i64 a1_1, .int .i64 a1_2]) (t := 34) ?hr ?_; (case hd => rfl); (case hg => rfl); (case hr => first | (go_simp; done) | (go_simp; rfl)); intro gb394 hg w8 hbox hb; have n0_ := Aside0.mk (below_step blA hb); have n1_ := Aside0.mk (hbox); have n2_ := Aside0.mk (szA hg blA); have n3_ := Aside0.mk (szA hg blA); clear HB; have HB := n0_; have BK394 := n1_; have GW394 := n2_; have GE394 := n3_; clear n0_ n1_ n2_ n3_; clear hb hbox hg) | ((with_reducible refine gate_dst (N := 5) rfl ?_); refine box_event ?hg (N := 5) ?hd (cs := #[.int .i64 a2_0, .int .i64 a2_1, .int .i64 a2_2]) (t := 34) ?hr ?_; (case hd => rfl); (case hg => rfl); (case hr => first | (go_simp; done) | (go_simp; rfl)); intro gb395 hg w9 hbox hb; have n0_ := Aside0.mk (blk_below (bkA BK394) hb); have n1_ := Aside0.mk (below_step blA hb); have n2_ := Aside0.mk (hbox); have n3_ := Aside0.mk (szA hg blA); have n4_ := Aside0.mk (szA hg blA); have n5_ := Aside0.mk (neA hg (bkA BK394)); have n6_ := Aside0.mk (neB hg (bkA BK394)); clear BK394; clear HB; have BK394 := n0_; have HB := n1_; have BK395 := n2_; have GW395 := n3_; have GE395 := n4_; have NB394_395 := n5_; have NB395_394 := n6_; clear n0_ n1_ n2_ n3_ n4_ n5_ n6_; clear hb hbox hg; have hnb10 := NB394_395.out; have hnc10 := NB395_394.out; have hcz11_0 : w9.cell? ⟨gb394, 0, none⟩ = some (.int .i64 a1_0) := (blk_cell BK394.out 0).trans rfl; have hcz11_1 : w9.cell? ⟨gb394, 1, none⟩ = some (.int .i64 a1_1) := (blk_cell BK394.out 1).trans rfl; have hcz11_2 : w9.cell? ⟨gb394, 2, none⟩ = some (.int .i64 a1_2) := (blk_cell BK394.out 2).trans rfl; have hfz11_0 := blk_frozen BK394.out 0; have hfz11_1 := blk_frozen BK394.out 1; have hfz11_2 := blk_frozen BK394.out 2; have hcz12_0 : w9.cell? ⟨gb395, 0, none⟩ = some (.int .i64 a2_0) := (blk_cell BK395.out 0).trans rfl; have hcz12_1 : w9.cell? ⟨gb395, 1, none⟩ = some (.int .i64 a2_1) := (blk_cell BK395.out 1).trans rfl; have hcz12_2 : w9.cell? ⟨gb395, 2, none⟩ = some (.int .i64 a2_2) := (blk_cell BK395.out 2).trans rfl; have hfz12_0 := blk_frozen BK395.out 0; have hfz12_1 := blk_frozen BK395.out 1; have hfz12_2 := blk_frozen BK395.out 2) | (go_at_call 132; (with_reducible refine (spec_l01Power.calls k a0 (wrap64 ((ji4) - a1_2)) t396 _ A5.out).mono ?_); rintro e w' ⟨rfl, ⟨nd, rfl⟩⟩; (try first | exact ⟨rfl, _, World.drewN_drewN _ _ _⟩ | exact ⟨rfl, _, Eq.trans (World.drewN_drewN _ _ _) (congrArg (World.drewN _) (Nat.add_assoc _ _ _))⟩)) | (go_at_call 132; (with_reducible refine (spec_l01Power.calls k a0 (wrap64 ((ji4) - a2_2)) t397 _ A6.out).mono ?_); rintro e w' ⟨rfl, ⟨nd, rfl⟩⟩; (try first | exact ⟨rfl, _, World.drewN_drewN _ _ _⟩ | exact ⟨rfl, _, Eq.trans (World.drewN_drewN _ _ _) (congrArg (World.drewN _) (Nat.add_assoc _ _ _))⟩)))
    repeat (go_quiet (first | ((with_reducible refine gate_dst (N := 4) rfl ?_); refine box_event ?hg (N := 4) ?hd (cs := #[.int .i64 a1_0, .int .i64 a1_1, .int .i64 a1_2]) (t := 34) ?hr ?_; (case hd => rfl); (case hg => rfl); (case hr => first | (go_simp; done) | (go_simp; rfl)); intro gb394 hg w8 hbox hb; have n0_ := Aside0.mk (below_step blA hb); have n1_ := Aside0.mk (hbox); have n2_ := Aside0.mk (szA hg blA); have n3_ := Aside0.mk (szA hg blA); clear HB; have HB := n0_; have BK394 := n1_; have GW394 := n2_; have GE394 := n3_; clear n0_ n1_ n2_ n3_; clear hb hbox hg) | ((with_reducible refine gate_dst (N := 5) rfl ?_); refine box_event ?hg (N := 5) ?hd (cs := #[.int .i64 a2_0, .int .i64 a2_1, .int .i64 a2_2]) (t := 34) ?hr ?_; (case hd => rfl); (case hg => rfl); (case hr => first | (go_simp; done) | (go_simp; rfl)); intro gb395 hg w9 hbox hb; have n0_ := Aside0.mk (blk_below (bkA BK394) hb); have n1_ := Aside0.mk (below_step blA hb); have n2_ := Aside0.mk (hbox); have n3_ := Aside0.mk (szA hg blA); have n4_ := Aside0.mk (szA hg blA); have n5_ := Aside0.mk (neA hg (bkA BK394)); have n6_ := Aside0.mk (neB hg (bkA BK394)); clear BK394; clear HB; have BK394 := n0_; have HB := n1_; have BK395 := n2_; have GW395 := n3_; have GE395 := n4_; have NB394_395 := n5_; have NB395_394 := n6_; clear n0_ n1_ n2_ n3_ n4_ n5_ n6_; clear hb hbox hg; have hnb10 := NB394_395.out; have hnc10 := NB395_394.out; have hcz11_0 : w9.cell? ⟨gb394, 0, none⟩ = some (.int .i64 a1_0) := (blk_cell BK394.out 0).trans rfl; have hcz11_1 : w9.cell? ⟨gb394, 1, none⟩ = some (.int .i64 a1_1) := (blk_cell BK394.out 1).trans rfl; have hcz11_2 : w9.cell? ⟨gb394, 2, none⟩ = some (.int .i64 a1_2) := (blk_cell BK394.out 2).trans rfl; have hfz11_0 := blk_frozen BK394.out 0; have hfz11_1 := blk_frozen BK394.out 1; have hfz11_2 := blk_frozen BK394.out 2; have hcz12_0 : w9.cell? ⟨gb395, 0, none⟩ = some (.int .i64 a2_0) := (blk_cell BK395.out 0).trans rfl; have hcz12_1 : w9.cell? ⟨gb395, 1, none⟩ = some (.int .i64 a2_1) := (blk_cell BK395.out 1).trans rfl; have hcz12_2 : w9.cell? ⟨gb395, 2, none⟩ = some (.int .i64 a2_2) := (blk_cell BK395.out 2).trans rfl; have hfz12_0 := blk_frozen BK395.out 0; have hfz12_1 := blk_frozen BK395.out 1; have hfz12_2 := blk_frozen BK395.out 2) | (go_at_call 132; (with_reducible refine (spec_l01Power.calls k a0 (wrap64 ((ji4) - a1_2)) t396 _ A5.out).mono ?_); rintro e w' ⟨rfl, ⟨nd, rfl⟩⟩; (try first | exact ⟨rfl, _, World.drewN_drewN _ _ _⟩ | exact ⟨rfl, _, Eq.trans (World.drewN_drewN _ _ _) (congrArg (World.drewN _) (Nat.add_assoc _ _ _))⟩)) | (go_at_call 132; (with_reducible refine (spec_l01Power.calls k a0 (wrap64 ((ji4) - a2_2)) t397 _ A6.out).mono ?_); rintro e w' ⟨rfl, ⟨nd, rfl⟩⟩; (try first | exact ⟨rfl, _, World.drewN_drewN _ _ _⟩ | exact ⟨rfl, _, Eq.trans (World.drewN_drewN _ _ _) (congrArg (World.drewN _) (Nat.add_assoc _ _ _))⟩))); try go_wp2_with (first | ((with_reducible refine gate_dst (N := 4) rfl ?_); refine box_event ?hg (N := 4) ?hd (cs := #[.int .i64 a1_0, .int .i64 a1_1, .int .i64 a1_2]) (t := 34) ?hr ?_; (case hd => rfl); (case hg => rfl); (case hr => first | (go_simp; done) | (go_simp; rfl)); intro gb394 hg w8 hbox hb; have n0_ := Aside0.mk (below_step blA hb); have n1_ := Aside0.mk (hbox); have n2_ := Aside0.mk (szA hg blA); have n3_ := Aside0.mk (szA hg blA); clear HB; have HB := n0_; have BK394 := n1_; have GW394 := n2_; have GE394 := n3_; clear n0_ n1_ n2_ n3_; clear hb hbox hg) | ((with_reducible refine gate_dst (N := 5) rfl ?_); refine box_event ?hg (N := 5) ?hd (cs := #[.int .i64 a2_0, .int .i64 a2_1, .int .i64 a2_2]) (t := 34) ?hr ?_; (case hd => rfl); (case hg => rfl); (case hr => first | (go_simp; done) | (go_simp; rfl)); intro gb395 hg w9 hbox hb; have n0_ := Aside0.mk (blk_below (bkA BK394) hb); have n1_ := Aside0.mk (below_step blA hb); have n2_ := Aside0.mk (hbox); have n3_ := Aside0.mk (szA hg blA); have n4_ := Aside0.mk (szA hg blA); have n5_ := Aside0.mk (neA hg (bkA BK394)); have n6_ := Aside0.mk (neB hg (bkA BK394)); clear BK394; clear HB; have BK394 := n0_; have HB := n1_; have BK395 := n2_; have GW395 := n3_; have GE395 := n4_; have NB394_395 := n5_; have NB395_394 := n6_; clear n0_ n1_ n2_ n3_ n4_ n5_ n6_; clear hb hbox hg; have hnb10 := NB394_395.out; have hnc10 := NB395_394.out; have hcz11_0 : w9.cell? ⟨gb394, 0, none⟩ = some (.int .i64 a1_0) := (blk_cell BK394.out 0).trans rfl; have hcz11_1 : w9.cell? ⟨gb394, 1, none⟩ = some (.int .i64 a1_1) := (blk_cell BK394.out 1).trans rfl; have hcz11_2 : w9.cell? ⟨gb394, 2, none⟩ = some (.int .i64 a1_2) := (blk_cell BK394.out 2).trans rfl; have hfz11_0 := blk_frozen BK394.out 0; have hfz11_1 := blk_frozen BK394.out 1; have hfz11_2 := blk_frozen BK394.out 2; have hcz12_0 : w9.cell? ⟨gb395, 0, none⟩ = some (.int .i64 a2_0) := (blk_cell BK395.out 0).trans rfl; have hcz12_1 : w9.cell? ⟨gb395, 1, none⟩ = some (.int .i64 a2_1) := (blk_cell BK395.out 1).trans rfl; have hcz12_2 : w9.cell? ⟨gb395, 2, none⟩ = some (.int .i64 a2_2) := (blk_cell BK395.out 2).trans rfl; have hfz12_0 := blk_frozen BK395.out 0; have hfz12_1 := blk_frozen BK395.out 1; have hfz12_2 := blk_frozen BK395.out 2) | (go_at_call 132; (with_reducible refine (spec_l01Power.calls k a0 (wrap64 ((ji4) - a1_2)) t396 _ A5.out).mono ?_); rintro e w' ⟨rfl, ⟨nd, rfl⟩⟩; (try first | exact ⟨rfl, _, World.drewN_drewN _ _ _⟩ | exact ⟨rfl, _, Eq.trans (World.drewN_drewN _ _ _) (congrArg (World.drewN _) (Nat.add_assoc _ _ _))⟩)) | (go_at_call 132; (with_reducible refine (spec_l01Power.calls k a0 (wrap64 ((ji4) - a2_2)) t397 _ A6.out).mono ?_); rintro e w' ⟨rfl, ⟨nd, rfl⟩⟩; (try first | exact ⟨rfl, _, World.drewN_drewN _ _ _⟩ | exact ⟨rfl, _, Eq.trans (World.drewN_drewN _ _ _) (congrArg (World.drewN _) (Nat.add_assoc _ _ _))⟩))))
    go_ret2
    exact ⟨by first | rfl | (simp [errW_none, errW_some] <;> rfl) | (simp only [← hji4]; first | rfl | (simp [errW_none, errW_some] <;> rfl)) | (simp [*, errW_none, errW_some] <;> rfl), blA⟩
  · rw [if_neg c7] at H
    have c7b0 : ((wrap64 ((wrap64 (a1_1 * t396)) - (wrap64 (a2_1 * t397)))) == 0) = false := beq_eq_false_iff_ne.mpr c7
    have c7b1 : ((wrap64 ((wrap64 (a1_1 * t396)) - (wrap64 (a2_1 * t397)))) != 0) = true := bne_iff_ne.mpr c7
    replace H := Option.bind_eq_some_iff.mp H
    obtain ⟨t398, A130, H⟩ := H
    replace H : (some (wrap64 (t398 - (ji4)), true)) = some (r1, r2) := H
    have A13 := Aside0.mk A130
    clear A130
    simp only [Option.some.injEq, Prod.mk.injEq] at H
    obtain ⟨rfl, rfl⟩ := H
    go_enter Try.func149, Try.ntmps149
    go_wp2_with (first | ((with_reducible refine gate_dst (N := 4) rfl ?_); refine box_event ?hg (N := 4) ?hd (cs := #[.int .i64 a1_0, .int .i64 a1_1, .int .i64 a1_2]) (t := 34) ?hr ?_; (case hd => rfl); (case hg => rfl); (case hr => first | (go_simp; done) | (go_simp; rfl)); intro gb394 hg w14 hbox hb; have n0_ := Aside0.mk (below_step blA hb); have n1_ := Aside0.mk (hbox); have n2_ := Aside0.mk (szA hg blA); have n3_ := Aside0.mk (szA hg blA); clear HB; have HB := n0_; have BK394 := n1_; have GW394 := n2_; have GE394 := n3_; clear n0_ n1_ n2_ n3_; clear hb hbox hg) | ((with_reducible refine gate_dst (N := 5) rfl ?_); refine box_event ?hg (N := 5) ?hd (cs := #[.int .i64 a2_0, .int .i64 a2_1, .int .i64 a2_2]) (t := 34) ?hr ?_; (case hd => rfl); (case hg => rfl); (case hr => first | (go_simp; done) | (go_simp; rfl)); intro gb395 hg w15 hbox hb; have n0_ := Aside0.mk (blk_below (bkA BK394) hb); have n1_ := Aside0.mk (below_step blA hb); have n2_ := Aside0.mk (hbox); have n3_ := Aside0.mk (szA hg blA); have n4_ := Aside0.mk (szA hg blA); have n5_ := Aside0.mk (neA hg (bkA BK394)); have n6_ := Aside0.mk (neB hg (bkA BK394)); clear BK394; clear HB; have BK394 := n0_; have HB := n1_; have BK395 := n2_; have GW395 := n3_; have GE395 := n4_; have NB394_395 := n5_; have NB395_394 := n6_; clear n0_ n1_ n2_ n3_ n4_ n5_ n6_; clear hb hbox hg; have hnb16 := NB394_395.out; have hnc16 := NB395_394.out; have hcz17_0 : w15.cell? ⟨gb394, 0, none⟩ = some (.int .i64 a1_0) := (blk_cell BK394.out 0).trans rfl; have hcz17_1 : w15.cell? ⟨gb394, 1, none⟩ = some (.int .i64 a1_1) := (blk_cell BK394.out 1).trans rfl; have hcz17_2 : w15.cell? ⟨gb394, 2, none⟩ = some (.int .i64 a1_2) := (blk_cell BK394.out 2).trans rfl; have hfz17_0 := blk_frozen BK394.out 0; have hfz17_1 := blk_frozen BK394.out 1; have hfz17_2 := blk_frozen BK394.out 2; have hcz18_0 : w15.cell? ⟨gb395, 0, none⟩ = some (.int .i64 a2_0) := (blk_cell BK395.out 0).trans rfl; have hcz18_1 : w15.cell? ⟨gb395, 1, none⟩ = some (.int .i64 a2_1) := (blk_cell BK395.out 1).trans rfl; have hcz18_2 : w15.cell? ⟨gb395, 2, none⟩ = some (.int .i64 a2_2) := (blk_cell BK395.out 2).trans rfl; have hfz18_0 := blk_frozen BK395.out 0; have hfz18_1 := blk_frozen BK395.out 1; have hfz18_2 := blk_frozen BK395.out 2) | (go_at_call 132; (with_reducible refine (spec_l01Power.calls k a0 (wrap64 ((ji4) - a1_2)) t396 _ A5.out).mono ?_); rintro e w' ⟨rfl, ⟨nd, rfl⟩⟩; (try first | exact ⟨rfl, _, World.drewN_drewN _ _ _⟩ | exact ⟨rfl, _, Eq.trans (World.drewN_drewN _ _ _) (congrArg (World.drewN _) (Nat.add_assoc _ _ _))⟩)) | (go_at_call 132; (with_reducible refine (spec_l01Power.calls k a0 (wrap64 ((ji4) - a2_2)) t397 _ A6.out).mono ?_); rintro e w' ⟨rfl, ⟨nd, rfl⟩⟩; (try first | exact ⟨rfl, _, World.drewN_drewN _ _ _⟩ | exact ⟨rfl, _, Eq.trans (World.drewN_drewN _ _ _) (congrArg (World.drewN _) (Nat.add_assoc _ _ _))⟩)) | (go_at_call 133; (with_reducible refine (spec_l01Val.calls k a0 (wrap64 ((wrap64 (a1_1 * t396)) - (wrap64 (a2_1 * t397)))) t398 _ A13.out).mono ?_); rintro e w' ⟨rfl, ⟨nd, rfl⟩⟩; (try first | exact ⟨rfl, _, World.drewN_drewN _ _ _⟩ | exact ⟨rfl, _, Eq.trans (World.drewN_drewN _ _ _) (congrArg (World.drewN _) (Nat.add_assoc _ _ _))⟩)))
    repeat (go_quiet (first | ((with_reducible refine gate_dst (N := 4) rfl ?_); refine box_event ?hg (N := 4) ?hd (cs := #[.int .i64 a1_0, .int .i64 a1_1, .int .i64 a1_2]) (t := 34) ?hr ?_; (case hd => rfl); (case hg => rfl); (case hr => first | (go_simp; done) | (go_simp; rfl)); intro gb394 hg w14 hbox hb; have n0_ := Aside0.mk (below_step blA hb); have n1_ := Aside0.mk (hbox); have n2_ := Aside0.mk (szA hg blA); have n3_ := Aside0.mk (szA hg blA); clear HB; have HB := n0_; have BK394 := n1_; have GW394 := n2_; have GE394 := n3_; clear n0_ n1_ n2_ n3_; clear hb hbox hg) | ((with_reducible refine gate_dst (N := 5) rfl ?_); refine box_event ?hg (N := 5) ?hd (cs := #[.int .i64 a2_0, .int .i64 a2_1, .int .i64 a2_2]) (t := 34) ?hr ?_; (case hd => rfl); (case hg => rfl); (case hr => first | (go_simp; done) | (go_simp; rfl)); intro gb395 hg w15 hbox hb; have n0_ := Aside0.mk (blk_below (bkA BK394) hb); have n1_ := Aside0.mk (below_step blA hb); have n2_ := Aside0.mk (hbox); have n3_ := Aside0.mk (szA hg blA); have n4_ := Aside0.mk (szA hg blA); have n5_ := Aside0.mk (neA hg (bkA BK394)); have n6_ := Aside0.mk (neB hg (bkA BK394)); clear BK394; clear HB; have BK394 := n0_; have HB := n1_; have BK395 := n2_; have GW395 := n3_; have GE395 := n4_; have NB394_395 := n5_; have NB395_394 := n6_; clear n0_ n1_ n2_ n3_ n4_ n5_ n6_; clear hb hbox hg; have hnb16 := NB394_395.out; have hnc16 := NB395_394.out; have hcz17_0 : w15.cell? ⟨gb394, 0, none⟩ = some (.int .i64 a1_0) := (blk_cell BK394.out 0).trans rfl; have hcz17_1 : w15.cell? ⟨gb394, 1, none⟩ = some (.int .i64 a1_1) := (blk_cell BK394.out 1).trans rfl; have hcz17_2 : w15.cell? ⟨gb394, 2, none⟩ = some (.int .i64 a1_2) := (blk_cell BK394.out 2).trans rfl; have hfz17_0 := blk_frozen BK394.out 0; have hfz17_1 := blk_frozen BK394.out 1; have hfz17_2 := blk_frozen BK394.out 2; have hcz18_0 : w15.cell? ⟨gb395, 0, none⟩ = some (.int .i64 a2_0) := (blk_cell BK395.out 0).trans rfl; have hcz18_1 : w15.cell? ⟨gb395, 1, none⟩ = some (.int .i64 a2_1) := (blk_cell BK395.out 1).trans rfl; have hcz18_2 : w15.cell? ⟨gb395, 2, none⟩ = some (.int .i64 a2_2) := (blk_cell BK395.out 2).trans rfl; have hfz18_0 := blk_frozen BK395.out 0; have hfz18_1 := blk_frozen BK395.out 1; have hfz18_2 := blk_frozen BK395.out 2) | (go_at_call 132; (with_reducible refine (spec_l01Power.calls k a0 (wrap64 ((ji4) - a1_2)) t396 _ A5.out).mono ?_); rintro e w' ⟨rfl, ⟨nd, rfl⟩⟩; (try first | exact ⟨rfl, _, World.drewN_drewN _ _ _⟩ | exact ⟨rfl, _, Eq.trans (World.drewN_drewN _ _ _) (congrArg (World.drewN _) (Nat.add_assoc _ _ _))⟩)) | (go_at_call 132; (with_reducible refine (spec_l01Power.calls k a0 (wrap64 ((ji4) - a2_2)) t397 _ A6.out).mono ?_); rintro e w' ⟨rfl, ⟨nd, rfl⟩⟩; (try first | exact ⟨rfl, _, World.drewN_drewN _ _ _⟩ | exact ⟨rfl, _, Eq.trans (World.drewN_drewN _ _ _) (congrArg (World.drewN _) (Nat.add_assoc _ _ _))⟩)) | (go_at_call 133; (with_reducible refine (spec_l01Val.calls k a0 (wrap64 ((wrap64 (a1_1 * t396)) - (wrap64 (a2_1 * t397)))) t398 _ A13.out).mono ?_); rintro e w' ⟨rfl, ⟨nd, rfl⟩⟩; (try first | exact ⟨rfl, _, World.drewN_drewN _ _ _⟩ | exact ⟨rfl, _, Eq.trans (World.drewN_drewN _ _ _) (congrArg (World.drewN _) (Nat.add_assoc _ _ _))⟩))); try go_wp2_with (first | ((with_reducible refine gate_dst (N := 4) rfl ?_); refine box_event ?hg (N := 4) ?hd (cs := #[.int .i64 a1_0, .int .i64 a1_1, .int .i64 a1_2]) (t := 34) ?hr ?_; (case hd => rfl); (case hg => rfl); (case hr => first | (go_simp; done) | (go_simp; rfl)); intro gb394 hg w14 hbox hb; have n0_ := Aside0.mk (below_step blA hb); have n1_ := Aside0.mk (hbox); have n2_ := Aside0.mk (szA hg blA); have n3_ := Aside0.mk (szA hg blA); clear HB; have HB := n0_; have BK394 := n1_; have GW394 := n2_; have GE394 := n3_; clear n0_ n1_ n2_ n3_; clear hb hbox hg) | ((with_reducible refine gate_dst (N := 5) rfl ?_); refine box_event ?hg (N := 5) ?hd (cs := #[.int .i64 a2_0, .int .i64 a2_1, .int .i64 a2_2]) (t := 34) ?hr ?_; (case hd => rfl); (case hg => rfl); (case hr => first | (go_simp; done) | (go_simp; rfl)); intro gb395 hg w15 hbox hb; have n0_ := Aside0.mk (blk_below (bkA BK394) hb); have n1_ := Aside0.mk (below_step blA hb); have n2_ := Aside0.mk (hbox); have n3_ := Aside0.mk (szA hg blA); have n4_ := Aside0.mk (szA hg blA); have n5_ := Aside0.mk (neA hg (bkA BK394)); have n6_ := Aside0.mk (neB hg (bkA BK394)); clear BK394; clear HB; have BK394 := n0_; have HB := n1_; have BK395 := n2_; have GW395 := n3_; have GE395 := n4_; have NB394_395 := n5_; have NB395_394 := n6_; clear n0_ n1_ n2_ n3_ n4_ n5_ n6_; clear hb hbox hg; have hnb16 := NB394_395.out; have hnc16 := NB395_394.out; have hcz17_0 : w15.cell? ⟨gb394, 0, none⟩ = some (.int .i64 a1_0) := (blk_cell BK394.out 0).trans rfl; have hcz17_1 : w15.cell? ⟨gb394, 1, none⟩ = some (.int .i64 a1_1) := (blk_cell BK394.out 1).trans rfl; have hcz17_2 : w15.cell? ⟨gb394, 2, none⟩ = some (.int .i64 a1_2) := (blk_cell BK394.out 2).trans rfl; have hfz17_0 := blk_frozen BK394.out 0; have hfz17_1 := blk_frozen BK394.out 1; have hfz17_2 := blk_frozen BK394.out 2; have hcz18_0 : w15.cell? ⟨gb395, 0, none⟩ = some (.int .i64 a2_0) := (blk_cell BK395.out 0).trans rfl; have hcz18_1 : w15.cell? ⟨gb395, 1, none⟩ = some (.int .i64 a2_1) := (blk_cell BK395.out 1).trans rfl; have hcz18_2 : w15.cell? ⟨gb395, 2, none⟩ = some (.int .i64 a2_2) := (blk_cell BK395.out 2).trans rfl; have hfz18_0 := blk_frozen BK395.out 0; have hfz18_1 := blk_frozen BK395.out 1; have hfz18_2 := blk_frozen BK395.out 2) | (go_at_call 132; (with_reducible refine (spec_l01Power.calls k a0 (wrap64 ((ji4) - a1_2)) t396 _ A5.out).mono ?_); rintro e w' ⟨rfl, ⟨nd, rfl⟩⟩; (try first | exact ⟨rfl, _, World.drewN_drewN _ _ _⟩ | exact ⟨rfl, _, Eq.trans (World.drewN_drewN _ _ _) (congrArg (World.drewN _) (Nat.add_assoc _ _ _))⟩)) | (go_at_call 132; (with_reducible refine (spec_l01Power.calls k a0 (wrap64 ((ji4) - a2_2)) t397 _ A6.out).mono ?_); rintro e w' ⟨rfl, ⟨nd, rfl⟩⟩; (try first | exact ⟨rfl, _, World.drewN_drewN _ _ _⟩ | exact ⟨rfl, _, Eq.trans (World.drewN_drewN _ _ _) (congrArg (World.drewN _) (Nat.add_assoc _ _ _))⟩)) | (go_at_call 133; (with_reducible refine (spec_l01Val.calls k a0 (wrap64 ((wrap64 (a1_1 * t396)) - (wrap64 (a2_1 * t397)))) t398 _ A13.out).mono ?_); rintro e w' ⟨rfl, ⟨nd, rfl⟩⟩; (try first | exact ⟨rfl, _, World.drewN_drewN _ _ _⟩ | exact ⟨rfl, _, Eq.trans (World.drewN_drewN _ _ _) (congrArg (World.drewN _) (Nat.add_assoc _ _ _))⟩))))
    go_ret2
    exact ⟨by first | rfl | (simp [errW_none, errW_some] <;> rfl) | (simp only [← hji4]; first | rfl | (simp [errW_none, errW_some] <;> rfl)) | (simp [*, errW_none, errW_some] <;> rfl), blA⟩
/-! ### spec_l02Join: function 122 -/
def spec_l02Join.f (k : Nat) (a0 : Int) (a1_0 : Int) (a1_1 : Int) (a1_2 : Int) (a2_0 : Int) (a2_1 : Int) (a2_2 : Int) : Option (Int) := (spec_l02Valuation.f k a0 a1_0 a1_1 a1_2 a2_0 a2_1 a2_2).bind fun bt401 => (if bt401.2 = true then (some (mn (mn a1_0 a2_0) bt401.1)) else (some (mn a1_0 a2_0)))
theorem spec_l02Join.mono : ∀ a0 a1 a2 a3 a4 a5 a6 k, LeO (spec_l02Join.f k a0 a1 a2 a3 a4 a5 a6) (spec_l02Join.f (k + 1) a0 a1 a2 a3 a4 a5 a6) := by
  intro a0 a1 a2 a3 a4 a5 a6 k
  unfold spec_l02Join.f
  repeat' first
      | (with_reducible exact spec_l02Valuation.mono _ _ _ _ _ _ _ _)
      | (with_reducible exact LeO.refl _)
      | (with_reducible exact LeO.none _)
      | (with_reducible refine LeO.ite ?_ ?_)
      | (with_reducible refine LeO.bind ?_ (fun _ => ?_))
      | exact spec_l02Valuation.mono _ _ _ _ _ _ _ _
      | exact LeO.none _
      | refine LeO.ite ?_ ?_
      | refine LeO.bind ?_ (fun _ => ?_)
set_option maxHeartbeats 8000000 in
set_option maxRecDepth 100000 in
theorem spec_l02Join.calls (k : Nat) (a0 : Int) (a1_0 : Int) (a1_1 : Int) (a1_2 : Int) (a2_0 : Int) (a2_1 : Int) (a2_2 : Int) (r : Int) (w : World) (h : spec_l02Join.f k a0 a1_0 a1_1 a1_2 a2_0 a2_1 a2_2 = some r) :
    Calls Try.prog 122 #[.int .i64 a0, .agg #[.int .i64 a1_0, .int .i64 a1_1, .int .i64 a1_2], .agg #[.int .i64 a2_0, .int .i64 a2_1, .int .i64 a2_2]] w fun e w' => e = .returned (.int .i64 r) ∧ Below w.heap.size w w' := by
  have hu34 := Try.underlying34
  have HB := Aside0.mk (Below.refl w.heap.size w)
  have H : ((spec_l02Valuation.f k a0 a1_0 a1_1 a1_2 a2_0 a2_1 a2_2).bind fun bt401 => (if bt401.2 = true then (some (mn (mn a1_0 a2_0) bt401.1)) else (some (mn a1_0 a2_0)))) = some r := h
  clear h
  obtain ⟨ji4, hji4⟩ : ∃ j_ : Int, (mn a1_0 a2_0) = j_ := ⟨_, rfl⟩
  replace H : ((spec_l02Valuation.f k a0 a1_0 a1_1 a1_2 a2_0 a2_1 a2_2).bind fun bt401 => (if bt401.2 = true then (some (mn (ji4) bt401.1)) else (some ji4))) = some r := by first | (rw [hji4] at H; exact H) | (simp only [hji4] at H ⊢; exact H)
  have hji4_ : (if a2_0 < a1_0 then a2_0 else a1_0) = ji4 := hji4
  replace H := Option.bind_eq_some_iff.mp H
  obtain ⟨⟨t401, t402⟩, A50, H⟩ := H
  replace H : (if t402 = true then (some (mn (ji4) t401)) else (some ji4)) = some r := H
  have A5 := Aside0.mk A50
  clear A50
  by_cases c6 : t402 = true
  · subst c6
    have H1 : (some (mn (ji4) t401)) = some r := by rw [if_pos rfl] at H; exact H
    clear H
    have H := H1
    clear H1
    obtain ⟨ji7, hji7⟩ : ∃ j_ : Int, (mn (ji4) t401) = j_ := ⟨_, rfl⟩
    replace H : (some ji7) = some r := by first | (rw [hji7] at H; exact H) | (simp only [hji7] at H ⊢; exact H)
    (try rw [hji7] at A5)
    have hji7_ : (if t401 < (ji4) then t401 else (ji4)) = ji7 := hji7
    obtain rfl := Option.some.inj H
    go_enter Try.func122, Try.ntmps122
    go_wp2_with (first | ((with_reducible refine gate_dst (N := 4) rfl ?_); refine box_event ?hg (N := 4) ?hd (cs := #[.int .i64 a1_0, .int .i64 a1_1, .int .i64 a1_2]) (t := 34) ?hr ?_; (case hd => rfl); (case hg => rfl); (case hr => first | (go_simp; done) | (go_simp; rfl)); intro gb399 hg w8 hbox hb; have n0_ := Aside0.mk (below_step blA hb); have n1_ := Aside0.mk (hbox); have n2_ := Aside0.mk (szA hg blA); have n3_ := Aside0.mk (szA hg blA); clear HB; have HB := n0_; have BK399 := n1_; have GW399 := n2_; have GE399 := n3_; clear n0_ n1_ n2_ n3_; clear hb hbox hg) | ((with_reducible refine gate_dst (N := 5) rfl ?_); refine box_event ?hg (N := 5) ?hd (cs := #[.int .i64 a2_0, .int .i64 a2_1, .int .i64 a2_2]) (t := 34) ?hr ?_; (case hd => rfl); (case hg => rfl); (case hr => first | (go_simp; done) | (go_simp; rfl)); intro gb400 hg w9 hbox hb; have n0_ := Aside0.mk (blk_below (bkA BK399) hb); have n1_ := Aside0.mk (below_step blA hb); have n2_ := Aside0.mk (hbox); have n3_ := Aside0.mk (szA hg blA); have n4_ := Aside0.mk (szA hg blA); have n5_ := Aside0.mk (neA hg (bkA BK399)); have n6_ := Aside0.mk (neB hg (bkA BK399)); clear BK399; clear HB; have BK399 := n0_; have HB := n1_; have BK400 := n2_; have GW400 := n3_; have GE400 := n4_; have NB399_400 := n5_; have NB400_399 := n6_; clear n0_ n1_ n2_ n3_ n4_ n5_ n6_; clear hb hbox hg; have hnb10 := NB399_400.out; have hnc10 := NB400_399.out; have hcz11_0 : w9.cell? ⟨gb399, 0, none⟩ = some (.int .i64 a1_0) := (blk_cell BK399.out 0).trans rfl; have hcz11_1 : w9.cell? ⟨gb399, 1, none⟩ = some (.int .i64 a1_1) := (blk_cell BK399.out 1).trans rfl; have hcz11_2 : w9.cell? ⟨gb399, 2, none⟩ = some (.int .i64 a1_2) := (blk_cell BK399.out 2).trans rfl; have hfz11_0 := blk_frozen BK399.out 0; have hfz11_1 := blk_frozen BK399.out 1; have hfz11_2 := blk_frozen BK399.out 2; have hcz12_0 : w9.cell? ⟨gb400, 0, none⟩ = some (.int .i64 a2_0) := (blk_cell BK400.out 0).trans rfl; have hcz12_1 : w9.cell? ⟨gb400, 1, none⟩ = some (.int .i64 a2_1) := (blk_cell BK400.out 1).trans rfl; have hcz12_2 : w9.cell? ⟨gb400, 2, none⟩ = some (.int .i64 a2_2) := (blk_cell BK400.out 2).trans rfl; have hfz12_0 := blk_frozen BK400.out 0; have hfz12_1 := blk_frozen BK400.out 1; have hfz12_2 := blk_frozen BK400.out 2) | ((with_reducible refine gate_callee (f := 149) rfl ?_); refine goesL_ (some 19) rfl rfl Try.func149 (by kernel_rfl) rfl #[.int .i64 a0, .agg #[.int .i64 a1_0, .int .i64 a1_1, .int .i64 a1_2], .agg #[.int .i64 a2_0, .int .i64 a2_1, .int .i64 a2_2]] rfl (by (try simp only [List.map_toArray, List.map_cons, List.map_nil]); first | done | rfl | (simp only [List.length_drop, List.length_take]; rfl)) ?_; (with_reducible refine (spec_l02Valuation.calls k a0 a1_0 a1_1 a1_2 a2_0 a2_1 a2_2 t401 true _ A5.out).mono ?_); rintro e w13 ⟨rfl, hb⟩; refine ⟨_, rfl, ?_⟩; have n0_ := Aside0.mk (blk_below (bkA BK399) hb); have n1_ := Aside0.mk (blk_below (bkA BK400) hb); have n2_ := Aside0.mk (below_step blA hb); clear BK399; clear BK400; clear HB; have BK399 := n0_; have BK400 := n1_; have HB := n2_; clear n0_ n1_ n2_; (try clear hb); (try clear hb2); (try clear hk); (try clear hi)))
    go_ret
    exact ⟨by first | rfl | (simp [errW_none, errW_some] <;> rfl) | (simp only [← hji4, ← hji7]; first | rfl | (simp [errW_none, errW_some] <;> rfl)) | (simp [*, errW_none, errW_some] <;> rfl), blA⟩
  · replace c6 := Bool.eq_false_iff.mpr c6
    subst c6
    have H1 : (some ji4) = some r := by rw [if_neg (show ¬ (false = true) by decide)] at H; exact H
    clear H
    have H := H1
    clear H1
    obtain rfl := Option.some.inj H
    go_enter Try.func122, Try.ntmps122
    go_wp2_with (first | ((with_reducible refine gate_dst (N := 4) rfl ?_); refine box_event ?hg (N := 4) ?hd (cs := #[.int .i64 a1_0, .int .i64 a1_1, .int .i64 a1_2]) (t := 34) ?hr ?_; (case hd => rfl); (case hg => rfl); (case hr => first | (go_simp; done) | (go_simp; rfl)); intro gb399 hg w14 hbox hb; have n0_ := Aside0.mk (below_step blA hb); have n1_ := Aside0.mk (hbox); have n2_ := Aside0.mk (szA hg blA); have n3_ := Aside0.mk (szA hg blA); clear HB; have HB := n0_; have BK399 := n1_; have GW399 := n2_; have GE399 := n3_; clear n0_ n1_ n2_ n3_; clear hb hbox hg) | ((with_reducible refine gate_dst (N := 5) rfl ?_); refine box_event ?hg (N := 5) ?hd (cs := #[.int .i64 a2_0, .int .i64 a2_1, .int .i64 a2_2]) (t := 34) ?hr ?_; (case hd => rfl); (case hg => rfl); (case hr => first | (go_simp; done) | (go_simp; rfl)); intro gb400 hg w15 hbox hb; have n0_ := Aside0.mk (blk_below (bkA BK399) hb); have n1_ := Aside0.mk (below_step blA hb); have n2_ := Aside0.mk (hbox); have n3_ := Aside0.mk (szA hg blA); have n4_ := Aside0.mk (szA hg blA); have n5_ := Aside0.mk (neA hg (bkA BK399)); have n6_ := Aside0.mk (neB hg (bkA BK399)); clear BK399; clear HB; have BK399 := n0_; have HB := n1_; have BK400 := n2_; have GW400 := n3_; have GE400 := n4_; have NB399_400 := n5_; have NB400_399 := n6_; clear n0_ n1_ n2_ n3_ n4_ n5_ n6_; clear hb hbox hg; have hnb16 := NB399_400.out; have hnc16 := NB400_399.out; have hcz17_0 : w15.cell? ⟨gb399, 0, none⟩ = some (.int .i64 a1_0) := (blk_cell BK399.out 0).trans rfl; have hcz17_1 : w15.cell? ⟨gb399, 1, none⟩ = some (.int .i64 a1_1) := (blk_cell BK399.out 1).trans rfl; have hcz17_2 : w15.cell? ⟨gb399, 2, none⟩ = some (.int .i64 a1_2) := (blk_cell BK399.out 2).trans rfl; have hfz17_0 := blk_frozen BK399.out 0; have hfz17_1 := blk_frozen BK399.out 1; have hfz17_2 := blk_frozen BK399.out 2; have hcz18_0 : w15.cell? ⟨gb400, 0, none⟩ = some (.int .i64 a2_0) := (blk_cell BK400.out 0).trans rfl; have hcz18_1 : w15.cell? ⟨gb400, 1, none⟩ = some (.int .i64 a2_1) := (blk_cell BK400.out 1).trans rfl; have hcz18_2 : w15.cell? ⟨gb400, 2, none⟩ = some (.int .i64 a2_2) := (blk_cell BK400.out 2).trans rfl; have hfz18_0 := blk_frozen BK400.out 0; have hfz18_1 := blk_frozen BK400.out 1; have hfz18_2 := blk_frozen BK400.out 2) | ((with_reducible refine gate_callee (f := 149) rfl ?_); refine goesL_ (some 19) rfl rfl Try.func149 (by kernel_rfl) rfl #[.int .i64 a0, .agg #[.int .i64 a1_0, .int .i64 a1_1, .int .i64 a1_2], .agg #[.int .i64 a2_0, .int .i64 a2_1, .int .i64 a2_2]] rfl (by (try simp only [List.map_toArray, List.map_cons, List.map_nil]); first | done | rfl | (simp only [List.length_drop, List.length_take]; rfl)) ?_; (with_reducible refine (spec_l02Valuation.calls k a0 a1_0 a1_1 a1_2 a2_0 a2_1 a2_2 t401 false _ A5.out).mono ?_); rintro e w19 ⟨rfl, hb⟩; refine ⟨_, rfl, ?_⟩; have n0_ := Aside0.mk (blk_below (bkA BK399) hb); have n1_ := Aside0.mk (blk_below (bkA BK400) hb); have n2_ := Aside0.mk (below_step blA hb); clear BK399; clear BK400; clear HB; have BK399 := n0_; have BK400 := n1_; have HB := n2_; clear n0_ n1_ n2_; (try clear hb); (try clear hb2); (try clear hk); (try clear hi)))
    go_ret
    exact ⟨by first | rfl | (simp [errW_none, errW_some] <;> rfl) | (simp only [← hji4]; first | rfl | (simp [errW_none, errW_some] <;> rfl)) | (simp [*, errW_none, errW_some] <;> rfl), blA⟩
/-! ### impl_areBalls: function 69 -/
def impl_areBalls.l0 : Nat → Int → List (S34) → Int → Int → Option (Bool)
  | 0, _, _, _, _ => none
  | k + 1, x0, x7, x8, x9 => if x9 < x8 then (if 0 ≤ x9 then (if x9 < (x7.length : Int) then ((impl_IsBall.f k x0 ((rd_T34 x7 x9).f0) ((rd_T34 x7 x9).f1) ((rd_T34 x7 x9).f2)).bind fun t475 => (if t475 = true then (impl_areBalls.l0 k x0 x7 x8 (wrap64 (x9 + 1))) else (some false))) else (none)) else (none)) else ((impl_isPrime.f x0).bind fun t476 => (some t476))
def impl_areBalls.f (k : Nat) (a0 : Int) (l1 : List (S34)) : Option (Bool) := impl_areBalls.l0 k a0 l1 (l1.length : Int) 0
theorem impl_areBalls.mono_l : ∀ k, (∀ y0 y1 y2 y3, LeO (impl_areBalls.l0 k y0 y1 y2 y3) (impl_areBalls.l0 (k + 1) y0 y1 y2 y3))
  | 0 => fun _ _ _ _ r h => by simp [impl_areBalls.l0] at h
  | k + 1 => by
    have ih0 := impl_areBalls.mono_l k
    · intro y0 y1 y2 y3
      unfold impl_areBalls.l0
      repeat' first
      | (with_reducible exact ih0 _ _ _ _)
      | (with_reducible exact impl_IsBall.mono _ _ _ _ _)
      | (with_reducible exact LeO.refl _)
      | (with_reducible exact LeO.none _)
      | (with_reducible refine LeO.ite ?_ ?_)
      | (with_reducible refine LeO.bind ?_ (fun _ => ?_))
      | exact ih0 _ _ _ _
      | exact impl_IsBall.mono _ _ _ _ _
      | exact LeO.none _
      | refine LeO.ite ?_ ?_
      | refine LeO.bind ?_ (fun _ => ?_)
theorem impl_areBalls.mono : ∀ a0 a1 k, LeO (impl_areBalls.f k a0 a1) (impl_areBalls.f (k + 1) a0 a1) := by
  intro a0 a1 k
  have ih0 := impl_areBalls.mono_l k
  unfold impl_areBalls.f
  repeat' first
      | (with_reducible exact ih0 _ _ _ _)
      | (with_reducible exact impl_IsBall.mono _ _ _ _ _)
      | (with_reducible exact LeO.refl _)
      | (with_reducible exact LeO.none _)
      | (with_reducible refine LeO.ite ?_ ?_)
      | (with_reducible refine LeO.bind ?_ (fun _ => ?_))
      | exact ih0 _ _ _ _
      | exact impl_IsBall.mono _ _ _ _ _
      | exact LeO.none _
      | refine LeO.ite ?_ ?_
      | refine LeO.bind ?_ (fun _ => ?_)
set_option maxHeartbeats 8000000 in
set_option maxRecDepth 100000 in
theorem impl_areBalls.calls (k : Nat) (a0 : Int) (A1 : Option Addr) (c1 : Nat) (l1 : List (S34)) (r : Bool) (w : World) (hr1 : Kd.C k34 w A1 l1.length l1) (hc1 : l1.length ≤ c1) (h : impl_areBalls.f k a0 l1 = some r) :
    Calls Try.prog 69 #[.int .i64 a0, .slice A1 l1.length c1] w fun e w' => e = .returned (.bool r) ∧ Below w.heap.size w w' := by
  have hu34 := Try.underlying34
  have HR1 := Aside0.mk hr1
  have HC1 := Aside0.mk hc1
  clear hr1 hc1
  have HB := Aside0.mk (Below.refl w.heap.size w)
  have H : (impl_areBalls.l0 k a0 l1 (l1.length : Int) 0) = some r := h
  clear h
  have H' := Aside0.mk H
  clear H
  go_enter Try.func69, Try.ntmps69
  go_wp2
  go_loopg [9] k (fun kq v9 w' => ∃ (x9_1 : Int), v9 = .int .i64 x9_1 ∧ Aside0 (impl_areBalls.l0 kq a0 l1 (l1.length : Int) x9_1 = some r) ∧ Aside0 (kq ≤ k) ∧ Aside0 (Below w.heap.size w w'))
  case atStart => exact ⟨(0), (by first | rfl | (simp; done) | (simp [*]; done)), H', ⟨Nat.le_refl _⟩, ⟨blA⟩⟩
  case round =>
    clear H'
    try clear c1
    try clear p2
    obtain ⟨x9_1, rfl, HA, HK1, HB⟩ := hrel
    cases gk with
    | zero => exact absurd HA.out (by simp [impl_areBalls.l0])
    | succ k1 =>
      have H := HA.out
      clear HA
      simp only [impl_areBalls.l0] at H
      by_cases c3 : x9_1 < (l1.length : Int)
      · rw [if_pos c3] at H
        have c3b0 : decide (x9_1 < (l1.length : Int)) = true := decide_eq_true c3
        clear c3
        by_cases c4 : 0 ≤ x9_1
        · rw [if_pos c4] at H
          have c4b0 : decide (0 ≤ x9_1) = true := decide_eq_true c4
          clear c4
          by_cases c5 : x9_1 < (l1.length : Int)
          · rw [if_pos c5] at H
            have c5b0 : decide (x9_1 < (l1.length : Int)) = true := decide_eq_true c5
            clear c5
            replace H := Option.bind_eq_some_iff.mp H
            obtain ⟨t475, A60, H⟩ := H
            replace H : (if t475 = true then (impl_areBalls.l0 k1 a0 l1 (l1.length : Int) (wrap64 (x9_1 + 1))) else (some false)) = some r := H
            have A6 := Aside0.mk A60
            clear A60
            by_cases c7 : t475 = true
            · subst c7
              have H1 : (impl_areBalls.l0 k1 a0 l1 (l1.length : Int) (wrap64 (x9_1 + 1))) = some r := by rw [if_pos rfl] at H; exact H
              clear H
              have H := H1
              clear H1
              have H' := Aside0.mk H
              clear H
              have p473 : 0 ≤ (x9_1 : Int) := of_decide_eq_true (by first | (with_reducible assumption) | assumption)
              have q473 : x9_1 < (l1.length : Int) := of_decide_eq_true (by first | (with_reducible assumption) | assumption)
              obtain ⟨ad473, e473, hx473_0, hx473_1, hx473_2⟩ := at_T34 HR1.out x9_1 p473 q473
              cases e473
              replace hx473_0 := (HB.out.cell (World.block_lt_of_cell? w _ hx473_0)).trans hx473_0
              replace hx473_1 := (HB.out.cell (World.block_lt_of_cell? w _ hx473_1)).trans hx473_1
              replace hx473_2 := (HB.out.cell (World.block_lt_of_cell? w _ hx473_2)).trans hx473_2
              replace p473 := eq_true p473
              replace q473 := eq_true q473
              go_wp2_with (first | ((with_reducible refine gate_dst (N := 6) rfl ?_); refine box_event ?hg (N := 6) ?hd (cs := #[.int .i64 0, .int .i64 0, .int .i64 0]) (t := 34) ?hr ?_; (case hd => rfl); (case hg => rfl); (case hr => first | (go_simp; done) | (go_simp; rfl)); intro gb474 hg w8 hbox hb; have n0_ := Aside0.mk (below_step blA hb); have n1_ := Aside0.mk (hbox); have n2_ := Aside0.mk (szA hg blA); have n3_ := Aside0.mk (szA hg blA); clear HB; have HB := n0_; have BK474 := n1_; have GW474 := n2_; have GE474 := n3_; clear n0_ n1_ n2_ n3_; clear hb hbox hg; have hcz9_0 : w8.cell? ⟨gb474, 0, none⟩ = some (.int .i64 0) := (blk_cell BK474.out 0).trans rfl; have hcz9_1 : w8.cell? ⟨gb474, 1, none⟩ = some (.int .i64 0) := (blk_cell BK474.out 1).trans rfl; have hcz9_2 : w8.cell? ⟨gb474, 2, none⟩ = some (.int .i64 0) := (blk_cell BK474.out 2).trans rfl; have hfz9_0 := blk_frozen BK474.out 0; have hfz9_1 := blk_frozen BK474.out 1; have hfz9_2 := blk_frozen BK474.out 2) | ((with_reducible refine gate_callee (f := 77) rfl ?_); refine goesL_ (some 15) rfl rfl Try.func77 (by kernel_rfl) rfl #[.int .i64 a0, .agg #[.int .i64 ((rd_T34 l1 x9_1).f0), .int .i64 ((rd_T34 l1 x9_1).f1), .int .i64 ((rd_T34 l1 x9_1).f2)]] rfl (by (try simp only [List.map_toArray, List.map_cons, List.map_nil]); first | done | rfl | (simp only [List.length_drop, List.length_take]; rfl)) ?_; (with_reducible refine (impl_IsBall.calls k1 a0 ((rd_T34 l1 x9_1).f0) ((rd_T34 l1 x9_1).f1) ((rd_T34 l1 x9_1).f2) true _ A6.out).mono ?_); rintro e w10 ⟨rfl, hb⟩; refine ⟨_, rfl, ?_⟩; have n0_ := Aside0.mk (blk_below (g := gb474) (o := .cells #[.int .i64 ((rd_T34 l1 x9_1).f0), .int .i64 ((rd_T34 l1 x9_1).f1), .int .i64 ((rd_T34 l1 x9_1).f2)] 34 (0, 0)) (by (with_reducible repeat (first | refine blk_drewN ?_ _ | refine blk_drew ?_ | refine blk_alloc ?_ _)); refine blk_put (cs := #[.int .i64 ((rd_T34 l1 x9_1).f0), .int .i64 ((rd_T34 l1 x9_1).f1), .int .i64 0]) ?_ 2 _ rfl; (with_reducible repeat (first | refine blk_drewN ?_ _ | refine blk_drew ?_ | refine blk_alloc ?_ _)); refine blk_put (cs := #[.int .i64 ((rd_T34 l1 x9_1).f0), .int .i64 0, .int .i64 0]) ?_ 1 _ rfl; (with_reducible repeat (first | refine blk_drewN ?_ _ | refine blk_drew ?_ | refine blk_alloc ?_ _)); refine blk_put (cs := #[.int .i64 0, .int .i64 0, .int .i64 0]) ?_ 0 _ rfl; (with_reducible repeat (first | refine blk_drewN ?_ _ | refine blk_drew ?_ | refine blk_alloc ?_ _)); exact BK474.out) hb); have n1_ := Aside0.mk (below_step blA hb); clear BK474; clear HB; have BK474 := n0_; have HB := n1_; clear n0_ n1_; (try clear hb); (try clear hb2); (try clear hk); (try clear hi)))
              go_roundg k1
              case measure => have := HK1.out; omega
              case rel => exact ⟨(wrap64 (x9_1 + 1)), (by first | rfl | (simp; done) | (simp [*]; done)), H', ⟨by have := HK1.out; omega⟩, ⟨blA⟩⟩
            · replace c7 := Bool.eq_false_iff.mpr c7
              subst c7
              have H1 : (some false) = some r := by rw [if_neg (show ¬ (false = true) by decide)] at H; exact H
              clear H
              have H := H1
              clear H1
              obtain rfl := Option.some.inj H
              have p473 : 0 ≤ (x9_1 : Int) := of_decide_eq_true (by first | (with_reducible assumption) | assumption)
              have q473 : x9_1 < (l1.length : Int) := of_decide_eq_true (by first | (with_reducible assumption) | assumption)
              obtain ⟨ad473, e473, hx473_0, hx473_1, hx473_2⟩ := at_T34 HR1.out x9_1 p473 q473
              cases e473
              replace hx473_0 := (HB.out.cell (World.block_lt_of_cell? w _ hx473_0)).trans hx473_0
              replace hx473_1 := (HB.out.cell (World.block_lt_of_cell? w _ hx473_1)).trans hx473_1
              replace hx473_2 := (HB.out.cell (World.block_lt_of_cell? w _ hx473_2)).trans hx473_2
              replace p473 := eq_true p473
              replace q473 := eq_true q473
              go_wp2_with (first | ((with_reducible refine gate_dst (N := 6) rfl ?_); refine box_event ?hg (N := 6) ?hd (cs := #[.int .i64 0, .int .i64 0, .int .i64 0]) (t := 34) ?hr ?_; (case hd => rfl); (case hg => rfl); (case hr => first | (go_simp; done) | (go_simp; rfl)); intro gb474 hg w11 hbox hb; have n0_ := Aside0.mk (below_step blA hb); have n1_ := Aside0.mk (hbox); have n2_ := Aside0.mk (szA hg blA); have n3_ := Aside0.mk (szA hg blA); clear HB; have HB := n0_; have BK474 := n1_; have GW474 := n2_; have GE474 := n3_; clear n0_ n1_ n2_ n3_; clear hb hbox hg; have hcz12_0 : w11.cell? ⟨gb474, 0, none⟩ = some (.int .i64 0) := (blk_cell BK474.out 0).trans rfl; have hcz12_1 : w11.cell? ⟨gb474, 1, none⟩ = some (.int .i64 0) := (blk_cell BK474.out 1).trans rfl; have hcz12_2 : w11.cell? ⟨gb474, 2, none⟩ = some (.int .i64 0) := (blk_cell BK474.out 2).trans rfl; have hfz12_0 := blk_frozen BK474.out 0; have hfz12_1 := blk_frozen BK474.out 1; have hfz12_2 := blk_frozen BK474.out 2) | ((with_reducible refine gate_callee (f := 77) rfl ?_); refine goesL_ (some 15) rfl rfl Try.func77 (by kernel_rfl) rfl #[.int .i64 a0, .agg #[.int .i64 ((rd_T34 l1 x9_1).f0), .int .i64 ((rd_T34 l1 x9_1).f1), .int .i64 ((rd_T34 l1 x9_1).f2)]] rfl (by (try simp only [List.map_toArray, List.map_cons, List.map_nil]); first | done | rfl | (simp only [List.length_drop, List.length_take]; rfl)) ?_; (with_reducible refine (impl_IsBall.calls k1 a0 ((rd_T34 l1 x9_1).f0) ((rd_T34 l1 x9_1).f1) ((rd_T34 l1 x9_1).f2) false _ A6.out).mono ?_); rintro e w13 ⟨rfl, hb⟩; refine ⟨_, rfl, ?_⟩; have n0_ := Aside0.mk (blk_below (g := gb474) (o := .cells #[.int .i64 ((rd_T34 l1 x9_1).f0), .int .i64 ((rd_T34 l1 x9_1).f1), .int .i64 ((rd_T34 l1 x9_1).f2)] 34 (0, 0)) (by (with_reducible repeat (first | refine blk_drewN ?_ _ | refine blk_drew ?_ | refine blk_alloc ?_ _)); refine blk_put (cs := #[.int .i64 ((rd_T34 l1 x9_1).f0), .int .i64 ((rd_T34 l1 x9_1).f1), .int .i64 0]) ?_ 2 _ rfl; (with_reducible repeat (first | refine blk_drewN ?_ _ | refine blk_drew ?_ | refine blk_alloc ?_ _)); refine blk_put (cs := #[.int .i64 ((rd_T34 l1 x9_1).f0), .int .i64 0, .int .i64 0]) ?_ 1 _ rfl; (with_reducible repeat (first | refine blk_drewN ?_ _ | refine blk_drew ?_ | refine blk_alloc ?_ _)); refine blk_put (cs := #[.int .i64 0, .int .i64 0, .int .i64 0]) ?_ 0 _ rfl; (with_reducible repeat (first | refine blk_drewN ?_ _ | refine blk_drew ?_ | refine blk_alloc ?_ _)); exact BK474.out) hb); have n1_ := Aside0.mk (below_step blA hb); clear BK474; clear HB; have BK474 := n0_; have HB := n1_; clear n0_ n1_; (try clear hb); (try clear hb2); (try clear hk); (try clear hi)))
              go_ret
              exact ⟨by first | rfl | (simp [errW_none, errW_some] <;> rfl) | (simp [*, errW_none, errW_some] <;> rfl), blA⟩
          · rw [if_neg c5] at H
            exact absurd H (by simp)
        · rw [if_neg c4] at H
          exact absurd H (by simp)
      · rw [if_neg c3] at H
        have c3b0 : decide (x9_1 < (l1.length : Int)) = false := decide_eq_false c3
        clear c3
        replace H := Option.bind_eq_some_iff.mp H
        obtain ⟨t476, A140, H⟩ := H
        replace H : (some t476) = some r := H
        have A14 := Aside0.mk A140
        clear A140
        obtain rfl := Option.some.inj H
        go_wp2_with (first | ((with_reducible refine gate_callee (f := 85) rfl ?_); refine goesL_ (some 19) rfl rfl Try.func85 (by kernel_rfl) rfl #[.int .i64 a0] rfl (by (try simp only [List.map_toArray, List.map_cons, List.map_nil]); first | done | rfl | (simp only [List.length_drop, List.length_take]; rfl)) ?_; (with_reducible refine (impl_isPrime.calls a0 t476 _ A14.out).mono ?_); rintro e w' ⟨rfl, ⟨nd, rfl⟩⟩; refine ⟨_, rfl, ?_⟩))
        go_ret
        exact ⟨by first | rfl | (simp [errW_none, errW_some] <;> rfl) | (simp [*, errW_none, errW_some] <;> rfl), blA⟩
/-! ### impl_joinLevel: function 125 -/
def impl_joinLevel.f (k : Nat) (a0 : Int) (a1_0 : Int) (a1_1 : Int) (a1_2 : Int) (a2_0 : Int) (a2_1 : Int) (a2_2 : Int) : Option (Int) := (impl_mark.f k a0 a1_0 a1_1 a1_2).bind fun t479 => ((impl_mark.f k a0 a2_0 a2_1 a2_2).bind fun t480 => ((impl_valuation.f k a0 (wrap64 (t479 - t480))).bind fun t481 => (some (mn (mn a1_0 a2_0) (wrap64 (t481 - 6))))))
theorem impl_joinLevel.mono : ∀ a0 a1 a2 a3 a4 a5 a6 k, LeO (impl_joinLevel.f k a0 a1 a2 a3 a4 a5 a6) (impl_joinLevel.f (k + 1) a0 a1 a2 a3 a4 a5 a6) := by
  intro a0 a1 a2 a3 a4 a5 a6 k
  unfold impl_joinLevel.f
  repeat' first
      | (with_reducible exact impl_mark.mono _ _ _ _ _)
      | (with_reducible exact impl_valuation.mono _ _ _)
      | (with_reducible exact LeO.refl _)
      | (with_reducible exact LeO.none _)
      | (with_reducible refine LeO.ite ?_ ?_)
      | (with_reducible refine LeO.bind ?_ (fun _ => ?_))
      | exact impl_mark.mono _ _ _ _ _
      | exact impl_valuation.mono _ _ _
      | exact LeO.none _
      | refine LeO.ite ?_ ?_
      | refine LeO.bind ?_ (fun _ => ?_)
def impl_joinLevel.T1 : Bool × List (List Nat × List Nat) := (true, [([], []), ([0], [0]), ([], []), ([2], [2]), ([], []), ([], []), ([], []), ([5, 6], [5, 6]), ([], []), ([], []), ([8, 9, 7], [8, 9]), ([7, 10], [7, 10]), ([4, 11, 10], [4, 11]), ([12], [12]), ([1, 3, 13], [1, 3, 13]), ([14, 12, 0, 1, 2, 3, 4, 5, 6, 7, 8, 9, 10, 11, 12, 13, 14], [14])])
def impl_joinLevel.B1 : List Nat := [0, 1, 0, 4, 0, 0, 0, 96, 0, 0, 992, 2016, 4080, 8176, 16383, 32767]
theorem impl_joinLevel.tab1 : rtab .any (opsOf Try.f125 1) = impl_joinLevel.T1 := by kernel_rfl
theorem impl_joinLevel.bits1 : waitsOk impl_joinLevel.T1.2 impl_joinLevel.B1 = true := by kernel_rfl
set_option maxHeartbeats 8000000 in
set_option maxRecDepth 100000 in
theorem impl_joinLevel.calls (k : Nat) (a0 : Int) (a1_0 : Int) (a1_1 : Int) (a1_2 : Int) (a2_0 : Int) (a2_1 : Int) (a2_2 : Int) (r : Int) (w : World) (h : impl_joinLevel.f k a0 a1_0 a1_1 a1_2 a2_0 a2_1 a2_2 = some r) :
    Calls Try.prog 125 #[.int .i64 a0, .agg #[.int .i64 a1_0, .int .i64 a1_1, .int .i64 a1_2], .agg #[.int .i64 a2_0, .int .i64 a2_1, .int .i64 a2_2]] w fun e w' => e = .returned (.int .i64 r) ∧ Below w.heap.size w w' := by
  have hu34 := Try.underlying34
  have HB := Aside0.mk (Below.refl w.heap.size w)
  have H : ((impl_mark.f k a0 a1_0 a1_1 a1_2).bind fun t479 => ((impl_mark.f k a0 a2_0 a2_1 a2_2).bind fun t480 => ((impl_valuation.f k a0 (wrap64 (t479 - t480))).bind fun t481 => (some (mn (mn a1_0 a2_0) (wrap64 (t481 - 6))))))) = some r := h
  clear h
  replace H := Option.bind_eq_some_iff.mp H
  obtain ⟨t479, A40, H⟩ := H
  replace H : ((impl_mark.f k a0 a2_0 a2_1 a2_2).bind fun t480 => ((impl_valuation.f k a0 (wrap64 (t479 - t480))).bind fun t481 => (some (mn (mn a1_0 a2_0) (wrap64 (t481 - 6)))))) = some r := H
  have A4 := Aside0.mk A40
  clear A40
  replace H := Option.bind_eq_some_iff.mp H
  obtain ⟨t480, A50, H⟩ := H
  replace H : ((impl_valuation.f k a0 (wrap64 (t479 - t480))).bind fun t481 => (some (mn (mn a1_0 a2_0) (wrap64 (t481 - 6))))) = some r := H
  have A5 := Aside0.mk A50
  clear A50
  replace H := Option.bind_eq_some_iff.mp H
  obtain ⟨t481, A60, H⟩ := H
  replace H : (some (mn (mn a1_0 a2_0) (wrap64 (t481 - 6)))) = some r := H
  have A6 := Aside0.mk A60
  clear A60
  obtain ⟨ji7, hji7⟩ : ∃ j_ : Int, (mn a1_0 a2_0) = j_ := ⟨_, rfl⟩
  replace H : (some (mn (ji7) (wrap64 (t481 - 6)))) = some r := by first | (rw [hji7] at H; exact H) | (simp only [hji7] at H ⊢; exact H)
  (try rw [hji7] at A4)
  (try rw [hji7] at A5)
  (try rw [hji7] at A6)
  have hji7_ : (if a2_0 < a1_0 then a2_0 else a1_0) = ji7 := hji7
  obtain ⟨ji8, hji8⟩ : ∃ j_ : Int, (mn (ji7) (wrap64 (t481 - 6))) = j_ := ⟨_, rfl⟩
  replace H : (some ji8) = some r := by first | (rw [hji8] at H; exact H) | (simp only [hji8] at H ⊢; exact H)
  (try rw [hji8] at A4)
  (try rw [hji8] at A5)
  (try rw [hji8] at A6)
  have hji8_ : (if (wrap64 (t481 - 6)) < (ji7) then (wrap64 (t481 - 6)) else (ji7)) = ji8 := hji8
  obtain rfl := Option.some.inj H
  go_enter Try.func125, Try.ntmps125
  try go_wp2_with (first | ((with_reducible refine gate_dst (N := 4) rfl ?_); refine box_event ?hg (N := 4) ?hd (cs := #[.int .i64 a1_0, .int .i64 a1_1, .int .i64 a1_2]) (t := 34) ?hr ?_; (case hd => rfl); (case hg => rfl); (case hr => first | (go_simp; done) | (go_simp; rfl)); intro gb477 hg w9 hbox hb; have n0_ := Aside0.mk (below_step blA hb); have n1_ := Aside0.mk (hbox); have n2_ := Aside0.mk (szA hg blA); have n3_ := Aside0.mk (szA hg blA); clear HB; have HB := n0_; have BK477 := n1_; have GW477 := n2_; have GE477 := n3_; clear n0_ n1_ n2_ n3_; clear hb hbox hg) | ((with_reducible refine gate_dst (N := 5) rfl ?_); refine box_event ?hg (N := 5) ?hd (cs := #[.int .i64 a2_0, .int .i64 a2_1, .int .i64 a2_2]) (t := 34) ?hr ?_; (case hd => rfl); (case hg => rfl); (case hr => first | (go_simp; done) | (go_simp; rfl)); intro gb478 hg w10 hbox hb; have n0_ := Aside0.mk (blk_below (bkA BK477) hb); have n1_ := Aside0.mk (below_step blA hb); have n2_ := Aside0.mk (hbox); have n3_ := Aside0.mk (szA hg blA); have n4_ := Aside0.mk (szA hg blA); have n5_ := Aside0.mk (neA hg (bkA BK477)); have n6_ := Aside0.mk (neB hg (bkA BK477)); clear BK477; clear HB; have BK477 := n0_; have HB := n1_; have BK478 := n2_; have GW478 := n3_; have GE478 := n4_; have NB477_478 := n5_; have NB478_477 := n6_; clear n0_ n1_ n2_ n3_ n4_ n5_ n6_; clear hb hbox hg))
  have n0_ := Aside0.mk (blk_drew BK477.out)
  have n1_ := Aside0.mk (blk_drew BK478.out)
  have n2_ := Aside0.mk (below_drew1 HB.out)
  clear BK477
  clear BK478
  clear HB
  have BK477 := n0_
  have BK478 := n1_
  have HB := n2_
  clear n0_ n1_ n2_
  refine start_ (n := 16) (S := fun w' => w'.cell? ⟨gb477, 0, none⟩ = some (.int .i64 a1_0) ∧ w'.cell? ⟨gb477, 1, none⟩ = some (.int .i64 a1_1) ∧ w'.cell? ⟨gb477, 2, none⟩ = some (.int .i64 a1_2) ∧ w'.cell? ⟨gb478, 0, none⟩ = some (.int .i64 a2_0) ∧ w'.cell? ⟨gb478, 1, none⟩ = some (.int .i64 a2_1) ∧ w'.cell? ⟨gb478, 2, none⟩ = some (.int .i64 a2_2)) (ds := []) #[false, false, false, false, false, false, false, false, false, false, false, false, false, false, false, false] (by kernel_rfl) rfl rfl ⟨(blk_cell BK477.out 0).trans rfl, (blk_cell BK477.out 1).trans rfl, (blk_cell BK477.out 2).trans rfl, (blk_cell BK478.out 0).trans rfl, (blk_cell BK478.out 1).trans rfl, (blk_cell BK478.out 2).trans rfl⟩ (fun hHeld => ?_); refine with_tabW impl_joinLevel.tab1 impl_joinLevel.bits1 (fun HT_ HW_ => ?_)
  generalize w10.drew = w11 at BK477 BK478 HB hHeld ⊢
  refine pure_ (i := 0) (N := some 7) (v := ?_) (a' := ?_) #[true, false, false, false, false, false, false, false, false, false, false, false, false, false, false, false] rfl rfl (any_of HT_.out (by kernel_rfl)) (fun _ _ _ h => h) (Or.inl ⟨by rfl, ?_⟩) ?_ ?_
  rotate_left
  · intro w'
    go_simp
    with_reducible rfl
  rotate_left
  · simp only [Act.put, List.setIfInBounds_toArray, List.set_cons_zero, List.set_cons_succ, i64_w, i32_w]
    rfl
  refine pure_ (i := 2) (N := some 9) (v := ?_) (a' := ?_) #[true, false, true, false, false, false, false, false, false, false, false, false, false, false, false, false] rfl rfl (any_of HT_.out (by kernel_rfl)) (fun _ _ _ h => h) (Or.inl ⟨by rfl, ?_⟩) ?_ ?_
  rotate_left
  · intro w'
    go_simp
    with_reducible rfl
  rotate_left
  · simp only [Act.put, List.setIfInBounds_toArray, List.set_cons_zero, List.set_cons_succ, i64_w, i32_w]
    rfl
  refine pure_ (i := 4) (N := some 11) (v := ?_) (a' := ?_) #[true, false, true, false, true, false, false, false, false, false, false, false, false, false, false, false] rfl rfl (any_of HT_.out (by kernel_rfl)) (fun _ _ _ h => h) (Or.inl ⟨by rfl, ?_⟩) ?_ ?_
  rotate_left
  · intro w'
    go_simp
    with_reducible rfl
  rotate_left
  · simp only [Act.put, List.setIfInBounds_toArray, List.set_cons_zero, List.set_cons_succ, i64_w, i32_w]
    rfl
  refine pure_ (i := 5) (N := some 12) (v := ?_) (a' := ?_) #[true, false, true, false, true, true, false, false, false, false, false, false, false, false, false, false] rfl rfl (any_of HT_.out (by kernel_rfl)) (fun _ _ _ h => h) (Or.inl ⟨by rfl, ?_⟩) ?_ ?_
  rotate_left
  · intro w'
    go_simp
    with_reducible rfl
  rotate_left
  · simp only [Act.put, List.setIfInBounds_toArray, List.set_cons_zero, List.set_cons_succ, i64_w, i32_w]
    rfl
  refine pure_ (i := 8) (N := some 15) (v := ?_) (a' := ?_) #[true, false, true, false, true, true, false, false, true, false, false, false, false, false, false, false] rfl rfl (any_of HT_.out (by kernel_rfl)) (fun _ _ _ h => h) (Or.inl ⟨by rfl, ?_⟩) ?_ ?_
  rotate_left
  · intro w'
    go_simp
    with_reducible rfl
  rotate_left
  · simp only [Act.put, List.setIfInBounds_toArray, List.set_cons_zero, List.set_cons_succ, i64_w, i32_w]
    rfl
  refine take_ (i := 1) (N := some 8) (v := ?_) (a' := ?_) #[true, true, true, false, true, true, false, false, true, false, false, false, false, false, false, false] rfl rfl (take_ofW HT_.out HW_.out (by kernel_rfl)) (fun _ _ _ h => h) (Or.inl ⟨by rfl, ?_⟩) hHeld ?_ ?_
  rotate_left
  · rintro w' ⟨s0, s1, s2, s3, s4, s5⟩
    go_simp
    with_reducible rfl
  rotate_left
  · simp only [Act.put, List.setIfInBounds_toArray, List.set_cons_zero, List.set_cons_succ, i64_w, i32_w]
    rfl
  refine take_ (i := 3) (N := some 10) (v := ?_) (a' := ?_) #[true, true, true, true, true, true, false, false, true, false, false, false, false, false, false, false] rfl rfl (take_ofW HT_.out HW_.out (by kernel_rfl)) (fun _ _ _ h => h) (Or.inl ⟨by rfl, ?_⟩) hHeld ?_ ?_
  rotate_left
  · rintro w' ⟨s0, s1, s2, s3, s4, s5⟩
    go_simp
    with_reducible rfl
  rotate_left
  · simp only [Act.put, List.setIfInBounds_toArray, List.set_cons_zero, List.set_cons_succ, i64_w, i32_w]
    rfl
  refine take_ (i := 6) (N := some 13) (v := ?_) (a' := ?_) #[true, true, true, true, true, true, true, false, true, false, false, false, false, false, false, false] rfl rfl (take_ofW HT_.out HW_.out (by kernel_rfl)) (fun _ _ _ h => h) (Or.inl ⟨by rfl, ?_⟩) hHeld ?_ ?_
  rotate_left
  · rintro w' ⟨s0, s1, s2, s3, s4, s5⟩
    go_simp
    with_reducible rfl
  rotate_left
  · simp only [Act.put, List.setIfInBounds_toArray, List.set_cons_zero, List.set_cons_succ, i64_w, i32_w]
    rfl
  refine take_ (i := 9) (N := some 16) (v := ?_) (a' := ?_) #[true, true, true, true, true, true, true, false, true, true, false, false, false, false, false, false] rfl rfl (take_ofW HT_.out HW_.out (by kernel_rfl)) (fun _ _ _ h => h) (Or.inl ⟨by rfl, ?_⟩) hHeld ?_ ?_
  rotate_left
  · rintro w' ⟨s0, s1, s2, s3, s4, s5⟩
    go_simp
    with_reducible rfl
  rotate_left
  · simp only [Act.put, List.setIfInBounds_toArray, List.set_cons_zero, List.set_cons_succ, i64_w, i32_w]
    rfl
  refine one_ (i := 7) (N := some 14) #[true, true, true, true, true, true, true, true, true, true, false, false, false, false, false, false] rfl rfl (one_of HT_.out (by kernel_rfl)) (by decide) (fun K hK => ?_)
  refine goes_ Try.func112 (by kernel_rfl) rfl #[.int .i64 a0, .agg #[.int .i64 a1_0, .int .i64 a1_1, .int .i64 a1_2]] (by rfl) rfl rfl (by (try simp only [List.map_toArray, List.map_cons, List.map_nil]); first | done | rfl | (simp only [List.length_drop, List.length_take]; rfl)) ?_
  with_reducible refine (impl_mark.calls k a0 a1_0 a1_1 a1_2 t479 _ A4.out).mono ?_
  rintro e w12 ⟨rfl, hb⟩
  refine ⟨_, rfl, ?_⟩
  have n0_ := Aside0.mk (blk_below (bkA BK477) hb)
  have n1_ := Aside0.mk (blk_below (bkA BK478) hb)
  have n2_ := Aside0.mk (below_step blA hb)
  clear BK477
  clear BK478
  clear HB
  have BK477 := n0_
  have BK478 := n1_
  have HB := n2_
  clear n0_ n1_ n2_
  (try clear hb)
  (try clear hb2)
  (try clear hk)
  (try clear hi)
  refine hK.out _ _ ⟨(blk_cell BK477.out 0).trans rfl, (blk_cell BK477.out 1).trans rfl, (blk_cell BK477.out 2).trans rfl, (blk_cell BK478.out 0).trans rfl, (blk_cell BK478.out 1).trans rfl, (blk_cell BK478.out 2).trans rfl⟩ (fun hHeld => ?_)
  clear hK K
  refine norm_ (a' := ?_) ?_ ?_
  rotate_left
  · show Act.put _ (some 14) _ = _
    simp only [Act.put, List.setIfInBounds_toArray, List.set_cons_zero, List.set_cons_succ, i64_w, i32_w]
    rfl
  refine one_ (i := 10) (N := some 17) #[true, true, true, true, true, true, true, true, true, true, true, false, false, false, false, false] rfl rfl (one_of HT_.out (by kernel_rfl)) (by decide) (fun K hK => ?_)
  refine goes_ Try.func112 (by kernel_rfl) rfl #[.int .i64 a0, .agg #[.int .i64 a2_0, .int .i64 a2_1, .int .i64 a2_2]] (by rfl) rfl rfl (by (try simp only [List.map_toArray, List.map_cons, List.map_nil]); first | done | rfl | (simp only [List.length_drop, List.length_take]; rfl)) ?_
  with_reducible refine (impl_mark.calls k a0 a2_0 a2_1 a2_2 t480 _ A5.out).mono ?_
  rintro e w13 ⟨rfl, hb⟩
  refine ⟨_, rfl, ?_⟩
  have n0_ := Aside0.mk (blk_below (bkA BK477) hb)
  have n1_ := Aside0.mk (blk_below (bkA BK478) hb)
  have n2_ := Aside0.mk (below_step blA hb)
  clear BK477
  clear BK478
  clear HB
  have BK477 := n0_
  have BK478 := n1_
  have HB := n2_
  clear n0_ n1_ n2_
  (try clear hb)
  (try clear hb2)
  (try clear hk)
  (try clear hi)
  refine hK.out _ _ ⟨(blk_cell BK477.out 0).trans rfl, (blk_cell BK477.out 1).trans rfl, (blk_cell BK477.out 2).trans rfl, (blk_cell BK478.out 0).trans rfl, (blk_cell BK478.out 1).trans rfl, (blk_cell BK478.out 2).trans rfl⟩ (fun hHeld => ?_)
  clear hK K
  refine norm_ (a' := ?_) ?_ ?_
  rotate_left
  · show Act.put _ (some 17) _ = _
    simp only [Act.put, List.setIfInBounds_toArray, List.set_cons_zero, List.set_cons_succ, i64_w, i32_w]
    rfl
  refine pure_ (i := 11) (N := some 18) (v := ?_) (a' := ?_) #[true, true, true, true, true, true, true, true, true, true, true, true, false, false, false, false] rfl rfl (any_of HT_.out (by kernel_rfl)) (fun _ _ _ h => h) (Or.inl ⟨by rfl, ?_⟩) ?_ ?_
  rotate_left
  · intro w'
    go_simp
    with_reducible rfl
  rotate_left
  · simp only [Act.put, List.setIfInBounds_toArray, List.set_cons_zero, List.set_cons_succ, i64_w, i32_w]
    rfl
  refine one_ (i := 12) (N := some 19) #[true, true, true, true, true, true, true, true, true, true, true, true, true, false, false, false] rfl rfl (one_of HT_.out (by kernel_rfl)) (by decide) (fun K hK => ?_)
  refine goes_ Try.func137 (by kernel_rfl) rfl #[.int .i64 a0, .int .i64 (wrap64 (t479 - t480))] (by rfl) rfl rfl (by (try simp only [List.map_toArray, List.map_cons, List.map_nil]); first | done | rfl | (simp only [List.length_drop, List.length_take]; rfl)) ?_
  with_reducible refine (impl_valuation.calls k a0 (wrap64 (t479 - t480)) t481 _ A6.out).mono ?_
  rintro e w' ⟨rfl, ⟨nd, rfl⟩⟩
  refine ⟨_, rfl, ?_⟩
  refine hK.out _ _ ⟨(blk_cell BK477.out 0).trans rfl, (blk_cell BK477.out 1).trans rfl, (blk_cell BK477.out 2).trans rfl, (blk_cell BK478.out 0).trans rfl, (blk_cell BK478.out 1).trans rfl, (blk_cell BK478.out 2).trans rfl⟩ (fun hHeld => ?_)
  clear hK K
  refine norm_ (a' := ?_) ?_ ?_
  rotate_left
  · show Act.put _ (some 19) _ = _
    simp only [Act.put, List.setIfInBounds_toArray, List.set_cons_zero, List.set_cons_succ, i64_w, i32_w]
    rfl
  refine pure_ (i := 13) (N := some 20) (v := ?_) (a' := ?_) #[true, true, true, true, true, true, true, true, true, true, true, true, true, true, false, false] rfl rfl (any_of HT_.out (by kernel_rfl)) (fun _ _ _ h => h) (Or.inl ⟨by rfl, ?_⟩) ?_ ?_
  rotate_left
  · intro w'
    go_simp
    with_reducible rfl
  rotate_left
  · simp only [Act.put, List.setIfInBounds_toArray, List.set_cons_zero, List.set_cons_succ, i64_w, i32_w]
    rfl
  refine pure_ (i := 14) (N := some 21) (v := ?_) (a' := ?_) #[true, true, true, true, true, true, true, true, true, true, true, true, true, true, true, false] rfl rfl (any_of HT_.out (by kernel_rfl)) (fun _ _ _ h => h) (Or.inl ⟨by rfl, ?_⟩) ?_ ?_
  rotate_left
  · intro w'
    go_simp
    with_reducible rfl
  rotate_left
  · simp only [Act.put, List.setIfInBounds_toArray, List.set_cons_zero, List.set_cons_succ, i64_w, i32_w]
    rfl
  refine pure_ (i := 15) (N := some 6) (v := ?_) (a' := ?_) #[true, true, true, true, true, true, true, true, true, true, true, true, true, true, true, true] rfl rfl (any_of HT_.out (by kernel_rfl)) (fun _ _ _ h => h) (Or.inl ⟨by rfl, ?_⟩) ?_ ?_
  rotate_left
  · intro w'
    go_simp
    with_reducible rfl
  rotate_left
  · simp only [Act.put, List.setIfInBounds_toArray, List.set_cons_zero, List.set_cons_succ, i64_w, i32_w]
    rfl
  refine done_ (done_of HT_.out (by kernel_rfl)) ?_
  try go_wp2
  go_ret
  exact ⟨by first | rfl | (simp [errW_none, errW_some] <;> rfl) | (simp only [← hji7, ← hji8]; first | rfl | (simp [errW_none, errW_some] <;> rfl)) | (simp [*, errW_none, errW_some] <;> rfl), blA⟩
/-! ### impl_above: function 126 -/
def impl_above.f (k : Nat) (a0 : Int) (a1_0 : Int) (a1_1 : Int) (a1_2 : Int) (a2 : Int) : Option (Int × Int × Int) := (impl_mark.f k a0 a1_0 a1_1 a1_2).bind fun t493 => ((impl_ofMark.f k a0 a2 t493).bind fun bt494 => (some (bt494.1, bt494.2.1, bt494.2.2.1)))
theorem impl_above.mono : ∀ a0 a1 a2 a3 a4 k, LeO (impl_above.f k a0 a1 a2 a3 a4) (impl_above.f (k + 1) a0 a1 a2 a3 a4) := by
  intro a0 a1 a2 a3 a4 k
  unfold impl_above.f
  repeat' first
      | (with_reducible exact impl_mark.mono _ _ _ _ _)
      | (with_reducible exact impl_ofMark.mono _ _ _ _)
      | (with_reducible exact LeO.refl _)
      | (with_reducible exact LeO.none _)
      | (with_reducible refine LeO.ite ?_ ?_)
      | (with_reducible refine LeO.bind ?_ (fun _ => ?_))
      | exact impl_mark.mono _ _ _ _ _
      | exact impl_ofMark.mono _ _ _ _
      | exact LeO.none _
      | refine LeO.ite ?_ ?_
      | refine LeO.bind ?_ (fun _ => ?_)
set_option maxHeartbeats 8000000 in
set_option maxRecDepth 100000 in
theorem impl_above.calls (k : Nat) (a0 : Int) (a1_0 : Int) (a1_1 : Int) (a1_2 : Int) (a2 : Int) (r1 : Int) (r2 : Int) (r3 : Int) (w : World) (h : impl_above.f k a0 a1_0 a1_1 a1_2 a2 = some (r1, r2, r3)) :
    Calls Try.prog 126 #[.int .i64 a0, .agg #[.int .i64 a1_0, .int .i64 a1_1, .int .i64 a1_2], .int .i64 a2] w fun e w' => e = .returned (.agg #[.int .i64 r1, .int .i64 r2, .int .i64 r3]) ∧ Below w.heap.size w w' := by
  have hu34 := Try.underlying34
  have HB := Aside0.mk (Below.refl w.heap.size w)
  have H : ((impl_mark.f k a0 a1_0 a1_1 a1_2).bind fun t493 => ((impl_ofMark.f k a0 a2 t493).bind fun bt494 => (some (bt494.1, bt494.2.1, bt494.2.2.1)))) = some (r1, r2, r3) := h
  clear h
  replace H := Option.bind_eq_some_iff.mp H
  obtain ⟨t493, A40, H⟩ := H
  replace H : ((impl_ofMark.f k a0 a2 t493).bind fun bt494 => (some (bt494.1, bt494.2.1, bt494.2.2.1))) = some (r1, r2, r3) := H
  have A4 := Aside0.mk A40
  clear A40
  replace H := Option.bind_eq_some_iff.mp H
  obtain ⟨⟨t494, t495, t496, t497⟩, A50, H⟩ := H
  replace H : (some (t494, t495, t496)) = some (r1, r2, r3) := H
  have A5 := Aside0.mk A50
  clear A50
  simp only [Option.some.injEq, Prod.mk.injEq] at H
  obtain ⟨rfl, rfl, rfl⟩ := H
  go_enter Try.func126, Try.ntmps126
  go_wp2_with (first | ((with_reducible refine gate_dst (N := 4) rfl ?_); refine box_event ?hg (N := 4) ?hd (cs := #[.int .i64 a1_0, .int .i64 a1_1, .int .i64 a1_2]) (t := 34) ?hr ?_; (case hd => rfl); (case hg => rfl); (case hr => first | (go_simp; done) | (go_simp; rfl)); intro gb491 hg w6 hbox hb; have n0_ := Aside0.mk (below_step blA hb); have n1_ := Aside0.mk (hbox); have n2_ := Aside0.mk (szA hg blA); have n3_ := Aside0.mk (szA hg blA); clear HB; have HB := n0_; have BK491 := n1_; have GW491 := n2_; have GE491 := n3_; clear n0_ n1_ n2_ n3_; clear hb hbox hg) | ((with_reducible refine gate_dst (N := 6) rfl ?_); refine box_event ?hg (N := 6) ?hd (cs := #[.int .i64 0, .int .i64 0, .int .i64 0]) (t := 34) ?hr ?_; (case hd => rfl); (case hg => rfl); (case hr => first | (go_simp; done) | (go_simp; rfl)); intro gb492 hg w7 hbox hb; have n0_ := Aside0.mk (blk_below (bkA BK491) hb); have n1_ := Aside0.mk (below_step blA hb); have n2_ := Aside0.mk (hbox); have n3_ := Aside0.mk (szA hg blA); have n4_ := Aside0.mk (szA hg blA); have n5_ := Aside0.mk (neA hg (bkA BK491)); have n6_ := Aside0.mk (neB hg (bkA BK491)); clear BK491; clear HB; have BK491 := n0_; have HB := n1_; have BK492 := n2_; have GW492 := n3_; have GE492 := n4_; have NB491_492 := n5_; have NB492_491 := n6_; clear n0_ n1_ n2_ n3_ n4_ n5_ n6_; clear hb hbox hg; have hnb8 := NB491_492.out; have hnc8 := NB492_491.out; have hcz9_0 : w7.cell? ⟨gb491, 0, none⟩ = some (.int .i64 a1_0) := (blk_cell BK491.out 0).trans rfl; have hcz9_1 : w7.cell? ⟨gb491, 1, none⟩ = some (.int .i64 a1_1) := (blk_cell BK491.out 1).trans rfl; have hcz9_2 : w7.cell? ⟨gb491, 2, none⟩ = some (.int .i64 a1_2) := (blk_cell BK491.out 2).trans rfl; have hfz9_0 := blk_frozen BK491.out 0; have hfz9_1 := blk_frozen BK491.out 1; have hfz9_2 := blk_frozen BK491.out 2) | ((with_reducible refine gate_callee (f := 112) rfl ?_); refine goesL_ (some 14) rfl rfl Try.func112 (by kernel_rfl) rfl #[.int .i64 a0, .agg #[.int .i64 a1_0, .int .i64 a1_1, .int .i64 a1_2]] rfl (by (try simp only [List.map_toArray, List.map_cons, List.map_nil]); first | done | rfl | (simp only [List.length_drop, List.length_take]; rfl)) ?_; (with_reducible refine (impl_mark.calls k a0 a1_0 a1_1 a1_2 t493 _ A4.out).mono ?_); rintro e w10 ⟨rfl, hb⟩; refine ⟨_, rfl, ?_⟩; have n0_ := Aside0.mk (blk_below (bkA BK491) hb); have n1_ := Aside0.mk (blk_below (bkA BK492) hb); have n2_ := Aside0.mk (below_step blA hb); clear BK491; clear BK492; clear HB; have BK491 := n0_; have BK492 := n1_; have HB := n2_; clear n0_ n1_ n2_; (try clear hb); (try clear hb2); (try clear hk); (try clear hi)) | ((with_reducible refine gate_callee (f := 111) rfl ?_); refine goesL_ (some 15) rfl rfl Try.func111 (by kernel_rfl) rfl #[.int .i64 a0, .int .i64 a2, .int .i64 t493] rfl (by (try simp only [List.map_toArray, List.map_cons, List.map_nil]); first | done | rfl | (simp only [List.length_drop, List.length_take]; rfl)) ?_; (with_reducible refine (impl_ofMark.calls k a0 a2 t493 t494 t495 t496 t497 _ A5.out).mono ?_); rintro e w11 ⟨rfl, hb⟩; refine ⟨_, rfl, ?_⟩; have n0_ := Aside0.mk (blk_below (bkA BK491) hb); have n1_ := Aside0.mk (blk_below (bkA BK492) hb); have n2_ := Aside0.mk (below_step blA hb); clear BK491; clear BK492; clear HB; have BK491 := n0_; have BK492 := n1_; have HB := n2_; clear n0_ n1_ n2_; (try clear hb); (try clear hb2); (try clear hk); (try clear hi)) | ((with_reducible refine gate_dst (N := 7) rfl ?_); refine box_event ?hg (N := 7) ?hd (cs := #[.int .i64 0, .int .i64 0, .int .i64 0]) (t := 34) ?hr ?_; (case hd => rfl); (case hg => rfl); (case hr => first | (go_simp; done) | (go_simp; rfl)); intro gb498 hg w12 hbox hb; have n0_ := Aside0.mk (blk_below (bkA BK491) hb); have n1_ := Aside0.mk (blk_below (bkA BK492) hb); have n2_ := Aside0.mk (below_step blA hb); have n3_ := Aside0.mk (hbox); have n4_ := Aside0.mk (szA hg blA); have n5_ := Aside0.mk (szA hg blA); have n6_ := Aside0.mk (neA hg (bkA BK491)); have n7_ := Aside0.mk (neB hg (bkA BK491)); have n8_ := Aside0.mk (neA hg (bkA BK492)); have n9_ := Aside0.mk (neB hg (bkA BK492)); clear BK491; clear BK492; clear HB; have BK491 := n0_; have BK492 := n1_; have HB := n2_; have BK498 := n3_; have GW498 := n4_; have GE498 := n5_; have NB491_498 := n6_; have NB498_491 := n7_; have NB492_498 := n8_; have NB498_492 := n9_; clear n0_ n1_ n2_ n3_ n4_ n5_ n6_ n7_ n8_ n9_; clear hb hbox hg; have hnb13 := NB498_491.out; have hnc13 := NB491_498.out; have hnb14 := NB498_492.out; have hnc14 := NB492_498.out; have hcz15_0 : w12.cell? ⟨gb498, 0, none⟩ = some (.int .i64 0) := (blk_cell BK498.out 0).trans rfl; have hcz15_1 : w12.cell? ⟨gb498, 1, none⟩ = some (.int .i64 0) := (blk_cell BK498.out 1).trans rfl; have hcz15_2 : w12.cell? ⟨gb498, 2, none⟩ = some (.int .i64 0) := (blk_cell BK498.out 2).trans rfl; have hfz15_0 := blk_frozen BK498.out 0; have hfz15_1 := blk_frozen BK498.out 1; have hfz15_2 := blk_frozen BK498.out 2; have hcz16_0 : w12.cell? ⟨gb492, 0, none⟩ = some (.int .i64 0) := (blk_cell BK492.out 0).trans rfl; have hcz16_1 : w12.cell? ⟨gb492, 1, none⟩ = some (.int .i64 0) := (blk_cell BK492.out 1).trans rfl; have hcz16_2 : w12.cell? ⟨gb492, 2, none⟩ = some (.int .i64 0) := (blk_cell BK492.out 2).trans rfl; have hfz16_0 := blk_frozen BK492.out 0; have hfz16_1 := blk_frozen BK492.out 1; have hfz16_2 := blk_frozen BK492.out 2))
  refine bodyPost_ret (results_cell_row rfl _ _ gb492 34 #[.int .i64 t494, .int .i64 t495, .int .i64 t496] (0, 0) _ rfl (by (with_reducible repeat (first | refine blk_drewN ?_ _ | refine blk_drew ?_ | refine blk_alloc ?_ _)); refine blk_put (cs := #[.int .i64 t494, .int .i64 t495, .int .i64 0]) ?_ 2 _ rfl; (with_reducible repeat (first | refine blk_drewN ?_ _ | refine blk_drew ?_ | refine blk_alloc ?_ _)); refine blk_put (cs := #[.int .i64 t494, .int .i64 0, .int .i64 0]) ?_ 1 _ rfl; (with_reducible repeat (first | refine blk_drewN ?_ _ | refine blk_drew ?_ | refine blk_alloc ?_ _)); refine blk_put (cs := #[.int .i64 0, .int .i64 0, .int .i64 0]) ?_ 0 _ rfl; (with_reducible repeat (first | refine blk_drewN ?_ _ | refine blk_drew ?_ | refine blk_alloc ?_ _)); refine blk_far ?_ NB492_498.out _; (with_reducible repeat (first | refine blk_drewN ?_ _ | refine blk_drew ?_ | refine blk_alloc ?_ _)); refine blk_far ?_ NB492_498.out _; (with_reducible repeat (first | refine blk_drewN ?_ _ | refine blk_drew ?_ | refine blk_alloc ?_ _)); refine blk_far ?_ NB492_498.out _; (with_reducible repeat (first | refine blk_drewN ?_ _ | refine blk_drew ?_ | refine blk_alloc ?_ _)); exact BK492.out) Try.underlying34 rfl (by kernel_rfl)) rfl ?_
  exact ⟨by first | rfl | (simp [errW_none, errW_some] <;> rfl) | (simp [*, errW_none, errW_some] <;> rfl), blA⟩
/-! ### spec_l02Distance: function 66 -/
def spec_l02Distance.f (k : Nat) (a0 : Int) (a1_0 : Int) (a1_1 : Int) (a1_2 : Int) (a2_0 : Int) (a2_1 : Int) (a2_2 : Int) : Option (Int) := (spec_l02Join.f k a0 a1_0 a1_1 a1_2 a2_0 a2_1 a2_2).bind fun t405 => (some (wrap64 ((wrap64 (a1_0 + a2_0)) - (wrap64 (2 * t405)))))
theorem spec_l02Distance.mono : ∀ a0 a1 a2 a3 a4 a5 a6 k, LeO (spec_l02Distance.f k a0 a1 a2 a3 a4 a5 a6) (spec_l02Distance.f (k + 1) a0 a1 a2 a3 a4 a5 a6) := by
  intro a0 a1 a2 a3 a4 a5 a6 k
  unfold spec_l02Distance.f
  repeat' first
      | (with_reducible exact spec_l02Join.mono _ _ _ _ _ _ _ _)
      | (with_reducible exact LeO.refl _)
      | (with_reducible exact LeO.none _)
      | (with_reducible refine LeO.ite ?_ ?_)
      | (with_reducible refine LeO.bind ?_ (fun _ => ?_))
      | exact spec_l02Join.mono _ _ _ _ _ _ _ _
      | exact LeO.none _
      | refine LeO.ite ?_ ?_
      | refine LeO.bind ?_ (fun _ => ?_)
def spec_l02Distance.T1 : Bool × List (List Nat × List Nat) := (true, [([], []), ([0], [0]), ([], []), ([2], [2]), ([1, 3], [1, 3]), ([], []), ([], []), ([], []), ([5, 6, 7], [5, 6, 7]), ([8], [8]), ([4, 9], [4, 9]), ([10, 8, 0, 1, 2, 3, 4, 5, 6, 7, 8, 9, 10], [10])])
def spec_l02Distance.B1 : List Nat := [0, 1, 0, 4, 15, 0, 0, 0, 224, 480, 1023, 2047]
theorem spec_l02Distance.tab1 : rtab .any (opsOf Try.f66 1) = spec_l02Distance.T1 := by kernel_rfl
theorem spec_l02Distance.bits1 : waitsOk spec_l02Distance.T1.2 spec_l02Distance.B1 = true := by kernel_rfl
set_option maxHeartbeats 8000000 in
set_option maxRecDepth 100000 in
theorem spec_l02Distance.calls (k : Nat) (a0 : Int) (a1_0 : Int) (a1_1 : Int) (a1_2 : Int) (a2_0 : Int) (a2_1 : Int) (a2_2 : Int) (r : Int) (w : World) (h : spec_l02Distance.f k a0 a1_0 a1_1 a1_2 a2_0 a2_1 a2_2 = some r) :
    Calls Try.prog 66 #[.int .i64 a0, .agg #[.int .i64 a1_0, .int .i64 a1_1, .int .i64 a1_2], .agg #[.int .i64 a2_0, .int .i64 a2_1, .int .i64 a2_2]] w fun e w' => e = .returned (.int .i64 r) ∧ Below w.heap.size w w' := by
  have hu34 := Try.underlying34
  have HB := Aside0.mk (Below.refl w.heap.size w)
  have H : ((spec_l02Join.f k a0 a1_0 a1_1 a1_2 a2_0 a2_1 a2_2).bind fun t405 => (some (wrap64 ((wrap64 (a1_0 + a2_0)) - (wrap64 (2 * t405)))))) = some r := h
  clear h
  replace H := Option.bind_eq_some_iff.mp H
  obtain ⟨t405, A40, H⟩ := H
  replace H : (some (wrap64 ((wrap64 (a1_0 + a2_0)) - (wrap64 (2 * t405))))) = some r := H
  have A4 := Aside0.mk A40
  clear A40
  obtain rfl := Option.some.inj H
  go_enter Try.func66, Try.ntmps66
  try go_wp2_with (first | ((with_reducible refine gate_dst (N := 4) rfl ?_); refine box_event ?hg (N := 4) ?hd (cs := #[.int .i64 a1_0, .int .i64 a1_1, .int .i64 a1_2]) (t := 34) ?hr ?_; (case hd => rfl); (case hg => rfl); (case hr => first | (go_simp; done) | (go_simp; rfl)); intro gb403 hg w5 hbox hb; have n0_ := Aside0.mk (below_step blA hb); have n1_ := Aside0.mk (hbox); have n2_ := Aside0.mk (szA hg blA); have n3_ := Aside0.mk (szA hg blA); clear HB; have HB := n0_; have BK403 := n1_; have GW403 := n2_; have GE403 := n3_; clear n0_ n1_ n2_ n3_; clear hb hbox hg) | ((with_reducible refine gate_dst (N := 5) rfl ?_); refine box_event ?hg (N := 5) ?hd (cs := #[.int .i64 a2_0, .int .i64 a2_1, .int .i64 a2_2]) (t := 34) ?hr ?_; (case hd => rfl); (case hg => rfl); (case hr => first | (go_simp; done) | (go_simp; rfl)); intro gb404 hg w6 hbox hb; have n0_ := Aside0.mk (blk_below (bkA BK403) hb); have n1_ := Aside0.mk (below_step blA hb); have n2_ := Aside0.mk (hbox); have n3_ := Aside0.mk (szA hg blA); have n4_ := Aside0.mk (szA hg blA); have n5_ := Aside0.mk (neA hg (bkA BK403)); have n6_ := Aside0.mk (neB hg (bkA BK403)); clear BK403; clear HB; have BK403 := n0_; have HB := n1_; have BK404 := n2_; have GW404 := n3_; have GE404 := n4_; have NB403_404 := n5_; have NB404_403 := n6_; clear n0_ n1_ n2_ n3_ n4_ n5_ n6_; clear hb hbox hg))
  have n0_ := Aside0.mk (blk_drew BK403.out)
  have n1_ := Aside0.mk (blk_drew BK404.out)
  have n2_ := Aside0.mk (below_drew1 HB.out)
  clear BK403
  clear BK404
  clear HB
  have BK403 := n0_
  have BK404 := n1_
  have HB := n2_
  clear n0_ n1_ n2_
  refine start_ (n := 12) (S := fun w' => w'.cell? ⟨gb403, 0, none⟩ = some (.int .i64 a1_0) ∧ w'.cell? ⟨gb403, 1, none⟩ = some (.int .i64 a1_1) ∧ w'.cell? ⟨gb403, 2, none⟩ = some (.int .i64 a1_2) ∧ w'.cell? ⟨gb404, 0, none⟩ = some (.int .i64 a2_0) ∧ w'.cell? ⟨gb404, 1, none⟩ = some (.int .i64 a2_1) ∧ w'.cell? ⟨gb404, 2, none⟩ = some (.int .i64 a2_2)) (ds := []) #[false, false, false, false, false, false, false, false, false, false, false, false] (by kernel_rfl) rfl rfl ⟨(blk_cell BK403.out 0).trans rfl, (blk_cell BK403.out 1).trans rfl, (blk_cell BK403.out 2).trans rfl, (blk_cell BK404.out 0).trans rfl, (blk_cell BK404.out 1).trans rfl, (blk_cell BK404.out 2).trans rfl⟩ (fun hHeld => ?_); refine with_tabW spec_l02Distance.tab1 spec_l02Distance.bits1 (fun HT_ HW_ => ?_)
  generalize w6.drew = w7 at BK403 BK404 HB hHeld ⊢
  refine pure_ (i := 0) (N := some 7) (v := ?_) (a' := ?_) #[true, false, false, false, false, false, false, false, false, false, false, false] rfl rfl (any_of HT_.out (by kernel_rfl)) (fun _ _ _ h => h) (Or.inl ⟨by rfl, ?_⟩) ?_ ?_
  rotate_left
  · intro w'
    go_simp
    with_reducible rfl
  rotate_left
  · simp only [Act.put, List.setIfInBounds_toArray, List.set_cons_zero, List.set_cons_succ, i64_w, i32_w]
    rfl
  refine pure_ (i := 2) (N := some 9) (v := ?_) (a' := ?_) #[true, false, true, false, false, false, false, false, false, false, false, false] rfl rfl (any_of HT_.out (by kernel_rfl)) (fun _ _ _ h => h) (Or.inl ⟨by rfl, ?_⟩) ?_ ?_
  rotate_left
  · intro w'
    go_simp
    with_reducible rfl
  rotate_left
  · simp only [Act.put, List.setIfInBounds_toArray, List.set_cons_zero, List.set_cons_succ, i64_w, i32_w]
    rfl
  refine pure_ (i := 5) (N := some 12) (v := ?_) (a' := ?_) #[true, false, true, false, false, true, false, false, false, false, false, false] rfl rfl (any_of HT_.out (by kernel_rfl)) (fun _ _ _ h => h) (Or.inl ⟨by rfl, ?_⟩) ?_ ?_
  rotate_left
  · intro w'
    go_simp
    with_reducible rfl
  rotate_left
  · simp only [Act.put, List.setIfInBounds_toArray, List.set_cons_zero, List.set_cons_succ, i64_w, i32_w]
    rfl
  refine take_ (i := 1) (N := some 8) (v := ?_) (a' := ?_) #[true, true, true, false, false, true, false, false, false, false, false, false] rfl rfl (take_ofW HT_.out HW_.out (by kernel_rfl)) (fun _ _ _ h => h) (Or.inl ⟨by rfl, ?_⟩) hHeld ?_ ?_
  rotate_left
  · rintro w' ⟨s0, s1, s2, s3, s4, s5⟩
    go_simp
    with_reducible rfl
  rotate_left
  · simp only [Act.put, List.setIfInBounds_toArray, List.set_cons_zero, List.set_cons_succ, i64_w, i32_w]
    rfl
  refine take_ (i := 3) (N := some 10) (v := ?_) (a' := ?_) #[true, true, true, true, false, true, false, false, false, false, false, false] rfl rfl (take_ofW HT_.out HW_.out (by kernel_rfl)) (fun _ _ _ h => h) (Or.inl ⟨by rfl, ?_⟩) hHeld ?_ ?_
  rotate_left
  · rintro w' ⟨s0, s1, s2, s3, s4, s5⟩
    go_simp
    with_reducible rfl
  rotate_left
  · simp only [Act.put, List.setIfInBounds_toArray, List.set_cons_zero, List.set_cons_succ, i64_w, i32_w]
    rfl
  refine pure_ (i := 4) (N := some 11) (v := ?_) (a' := ?_) #[true, true, true, true, true, true, false, false, false, false, false, false] rfl rfl (any_of HT_.out (by kernel_rfl)) (fun _ _ _ h => h) (Or.inl ⟨by rfl, ?_⟩) ?_ ?_
  rotate_left
  · intro w'
    go_simp
    with_reducible rfl
  rotate_left
  · simp only [Act.put, List.setIfInBounds_toArray, List.set_cons_zero, List.set_cons_succ, i64_w, i32_w]
    rfl
  refine take_ (i := 6) (N := some 13) (v := ?_) (a' := ?_) #[true, true, true, true, true, true, true, false, false, false, false, false] rfl rfl (take_ofW HT_.out HW_.out (by kernel_rfl)) (fun _ _ _ h => h) (Or.inl ⟨by rfl, ?_⟩) hHeld ?_ ?_
  rotate_left
  · rintro w' ⟨s0, s1, s2, s3, s4, s5⟩
    go_simp
    with_reducible rfl
  rotate_left
  · simp only [Act.put, List.setIfInBounds_toArray, List.set_cons_zero, List.set_cons_succ, i64_w, i32_w]
    rfl
  refine take_ (i := 7) (N := some 14) (v := ?_) (a' := ?_) #[true, true, true, true, true, true, true, true, false, false, false, false] rfl rfl (take_ofW HT_.out HW_.out (by kernel_rfl)) (fun _ _ _ h => h) (Or.inl ⟨by rfl, ?_⟩) hHeld ?_ ?_
  rotate_left
  · rintro w' ⟨s0, s1, s2, s3, s4, s5⟩
    go_simp
    with_reducible rfl
  rotate_left
  · simp only [Act.put, List.setIfInBounds_toArray, List.set_cons_zero, List.set_cons_succ, i64_w, i32_w]
    rfl
  refine one_ (i := 8) (N := some 15) #[true, true, true, true, true, true, true, true, true, false, false, false] rfl rfl (one_of HT_.out (by kernel_rfl)) (by decide) (fun K hK => ?_)
  refine goes_ Try.func122 (by kernel_rfl) rfl #[.int .i64 a0, .agg #[.int .i64 a1_0, .int .i64 a1_1, .int .i64 a1_2], .agg #[.int .i64 a2_0, .int .i64 a2_1, .int .i64 a2_2]] (by rfl) rfl rfl (by (try simp only [List.map_toArray, List.map_cons, List.map_nil]); first | done | rfl | (simp only [List.length_drop, List.length_take]; rfl)) ?_
  with_reducible refine (spec_l02Join.calls k a0 a1_0 a1_1 a1_2 a2_0 a2_1 a2_2 t405 _ A4.out).mono ?_
  rintro e w8 ⟨rfl, hb⟩
  refine ⟨_, rfl, ?_⟩
  have n0_ := Aside0.mk (blk_below (bkA BK403) hb)
  have n1_ := Aside0.mk (blk_below (bkA BK404) hb)
  have n2_ := Aside0.mk (below_step blA hb)
  clear BK403
  clear BK404
  clear HB
  have BK403 := n0_
  have BK404 := n1_
  have HB := n2_
  clear n0_ n1_ n2_
  (try clear hb)
  (try clear hb2)
  (try clear hk)
  (try clear hi)
  refine hK.out _ _ ⟨(blk_cell BK403.out 0).trans rfl, (blk_cell BK403.out 1).trans rfl, (blk_cell BK403.out 2).trans rfl, (blk_cell BK404.out 0).trans rfl, (blk_cell BK404.out 1).trans rfl, (blk_cell BK404.out 2).trans rfl⟩ (fun hHeld => ?_)
  clear hK K
  refine norm_ (a' := ?_) ?_ ?_
  rotate_left
  · show Act.put _ (some 15) _ = _
    simp only [Act.put, List.setIfInBounds_toArray, List.set_cons_zero, List.set_cons_succ, i64_w, i32_w]
    rfl
  refine pure_ (i := 9) (N := some 16) (v := ?_) (a' := ?_) #[true, true, true, true, true, true, true, true, true, true, false, false] rfl rfl (any_of HT_.out (by kernel_rfl)) (fun _ _ _ h => h) (Or.inl ⟨by rfl, ?_⟩) ?_ ?_
  rotate_left
  · intro w'
    go_simp
    with_reducible rfl
  rotate_left
  · simp only [Act.put, List.setIfInBounds_toArray, List.set_cons_zero, List.set_cons_succ, i64_w, i32_w]
    rfl
  refine pure_ (i := 10) (N := some 17) (v := ?_) (a' := ?_) #[true, true, true, true, true, true, true, true, true, true, true, false] rfl rfl (any_of HT_.out (by kernel_rfl)) (fun _ _ _ h => h) (Or.inl ⟨by rfl, ?_⟩) ?_ ?_
  rotate_left
  · intro w'
    go_simp
    with_reducible rfl
  rotate_left
  · simp only [Act.put, List.setIfInBounds_toArray, List.set_cons_zero, List.set_cons_succ, i64_w, i32_w]
    rfl
  refine pure_ (i := 11) (N := some 6) (v := ?_) (a' := ?_) #[true, true, true, true, true, true, true, true, true, true, true, true] rfl rfl (any_of HT_.out (by kernel_rfl)) (fun _ _ _ h => h) (Or.inl ⟨by rfl, ?_⟩) ?_ ?_
  rotate_left
  · intro w'
    go_simp
    with_reducible rfl
  rotate_left
  · simp only [Act.put, List.setIfInBounds_toArray, List.set_cons_zero, List.set_cons_succ, i64_w, i32_w]
    rfl
  refine done_ (done_of HT_.out (by kernel_rfl)) ?_
  try go_wp2
  go_ret
  exact ⟨by first | rfl | (simp [errW_none, errW_some] <;> rfl) | (simp [*, errW_none, errW_some] <;> rfl), blA⟩
/-! ### impl_distance: function 70 -/
def impl_distance.f (k : Nat) (a0 : Int) (a1_0 : Int) (a1_1 : Int) (a1_2 : Int) (a2_0 : Int) (a2_1 : Int) (a2_2 : Int) : Option (Int) := (impl_joinLevel.f k a0 a1_0 a1_1 a1_2 a2_0 a2_1 a2_2).bind fun t484 => (some (wrap64 ((wrap64 (a1_0 + a2_0)) - (wrap64 (2 * t484)))))
theorem impl_distance.mono : ∀ a0 a1 a2 a3 a4 a5 a6 k, LeO (impl_distance.f k a0 a1 a2 a3 a4 a5 a6) (impl_distance.f (k + 1) a0 a1 a2 a3 a4 a5 a6) := by
  intro a0 a1 a2 a3 a4 a5 a6 k
  unfold impl_distance.f
  repeat' first
      | (with_reducible exact impl_joinLevel.mono _ _ _ _ _ _ _ _)
      | (with_reducible exact LeO.refl _)
      | (with_reducible exact LeO.none _)
      | (with_reducible refine LeO.ite ?_ ?_)
      | (with_reducible refine LeO.bind ?_ (fun _ => ?_))
      | exact impl_joinLevel.mono _ _ _ _ _ _ _ _
      | exact LeO.none _
      | refine LeO.ite ?_ ?_
      | refine LeO.bind ?_ (fun _ => ?_)
def impl_distance.T1 : Bool × List (List Nat × List Nat) := (true, [([], []), ([0], [0]), ([], []), ([2], [2]), ([1, 3], [1, 3]), ([], []), ([], []), ([], []), ([5, 6, 7], [5, 6, 7]), ([8], [8]), ([4, 9], [4, 9]), ([10, 8, 0, 1, 2, 3, 4, 5, 6, 7, 8, 9, 10], [10])])
def impl_distance.B1 : List Nat := [0, 1, 0, 4, 15, 0, 0, 0, 224, 480, 1023, 2047]
theorem impl_distance.tab1 : rtab .any (opsOf Try.f70 1) = impl_distance.T1 := by kernel_rfl
theorem impl_distance.bits1 : waitsOk impl_distance.T1.2 impl_distance.B1 = true := by kernel_rfl
set_option maxHeartbeats 8000000 in
set_option maxRecDepth 100000 in
theorem impl_distance.calls (k : Nat) (a0 : Int) (a1_0 : Int) (a1_1 : Int) (a1_2 : Int) (a2_0 : Int) (a2_1 : Int) (a2_2 : Int) (r : Int) (w : World) (h : impl_distance.f k a0 a1_0 a1_1 a1_2 a2_0 a2_1 a2_2 = some r) :
    Calls Try.prog 70 #[.int .i64 a0, .agg #[.int .i64 a1_0, .int .i64 a1_1, .int .i64 a1_2], .agg #[.int .i64 a2_0, .int .i64 a2_1, .int .i64 a2_2]] w fun e w' => e = .returned (.int .i64 r) ∧ Below w.heap.size w w' := by
  have hu34 := Try.underlying34
  have HB := Aside0.mk (Below.refl w.heap.size w)
  have H : ((impl_joinLevel.f k a0 a1_0 a1_1 a1_2 a2_0 a2_1 a2_2).bind fun t484 => (some (wrap64 ((wrap64 (a1_0 + a2_0)) - (wrap64 (2 * t484)))))) = some r := h
  clear h
  replace H := Option.bind_eq_some_iff.mp H
  obtain ⟨t484, A40, H⟩ := H
  replace H : (some (wrap64 ((wrap64 (a1_0 + a2_0)) - (wrap64 (2 * t484))))) = some r := H
  have A4 := Aside0.mk A40
  clear A40
  obtain rfl := Option.some.inj H
  go_enter Try.func70, Try.ntmps70
  try go_wp2_with (first | ((with_reducible refine gate_dst (N := 4) rfl ?_); refine box_event ?hg (N := 4) ?hd (cs := #[.int .i64 a1_0, .int .i64 a1_1, .int .i64 a1_2]) (t := 34) ?hr ?_; (case hd => rfl); (case hg => rfl); (case hr => first | (go_simp; done) | (go_simp; rfl)); intro gb482 hg w5 hbox hb; have n0_ := Aside0.mk (below_step blA hb); have n1_ := Aside0.mk (hbox); have n2_ := Aside0.mk (szA hg blA); have n3_ := Aside0.mk (szA hg blA); clear HB; have HB := n0_; have BK482 := n1_; have GW482 := n2_; have GE482 := n3_; clear n0_ n1_ n2_ n3_; clear hb hbox hg) | ((with_reducible refine gate_dst (N := 5) rfl ?_); refine box_event ?hg (N := 5) ?hd (cs := #[.int .i64 a2_0, .int .i64 a2_1, .int .i64 a2_2]) (t := 34) ?hr ?_; (case hd => rfl); (case hg => rfl); (case hr => first | (go_simp; done) | (go_simp; rfl)); intro gb483 hg w6 hbox hb; have n0_ := Aside0.mk (blk_below (bkA BK482) hb); have n1_ := Aside0.mk (below_step blA hb); have n2_ := Aside0.mk (hbox); have n3_ := Aside0.mk (szA hg blA); have n4_ := Aside0.mk (szA hg blA); have n5_ := Aside0.mk (neA hg (bkA BK482)); have n6_ := Aside0.mk (neB hg (bkA BK482)); clear BK482; clear HB; have BK482 := n0_; have HB := n1_; have BK483 := n2_; have GW483 := n3_; have GE483 := n4_; have NB482_483 := n5_; have NB483_482 := n6_; clear n0_ n1_ n2_ n3_ n4_ n5_ n6_; clear hb hbox hg))
  have n0_ := Aside0.mk (blk_drew BK482.out)
  have n1_ := Aside0.mk (blk_drew BK483.out)
  have n2_ := Aside0.mk (below_drew1 HB.out)
  clear BK482
  clear BK483
  clear HB
  have BK482 := n0_
  have BK483 := n1_
  have HB := n2_
  clear n0_ n1_ n2_
  refine start_ (n := 12) (S := fun w' => w'.cell? ⟨gb482, 0, none⟩ = some (.int .i64 a1_0) ∧ w'.cell? ⟨gb482, 1, none⟩ = some (.int .i64 a1_1) ∧ w'.cell? ⟨gb482, 2, none⟩ = some (.int .i64 a1_2) ∧ w'.cell? ⟨gb483, 0, none⟩ = some (.int .i64 a2_0) ∧ w'.cell? ⟨gb483, 1, none⟩ = some (.int .i64 a2_1) ∧ w'.cell? ⟨gb483, 2, none⟩ = some (.int .i64 a2_2)) (ds := []) #[false, false, false, false, false, false, false, false, false, false, false, false] (by kernel_rfl) rfl rfl ⟨(blk_cell BK482.out 0).trans rfl, (blk_cell BK482.out 1).trans rfl, (blk_cell BK482.out 2).trans rfl, (blk_cell BK483.out 0).trans rfl, (blk_cell BK483.out 1).trans rfl, (blk_cell BK483.out 2).trans rfl⟩ (fun hHeld => ?_); refine with_tabW impl_distance.tab1 impl_distance.bits1 (fun HT_ HW_ => ?_)
  generalize w6.drew = w7 at BK482 BK483 HB hHeld ⊢
  refine pure_ (i := 0) (N := some 7) (v := ?_) (a' := ?_) #[true, false, false, false, false, false, false, false, false, false, false, false] rfl rfl (any_of HT_.out (by kernel_rfl)) (fun _ _ _ h => h) (Or.inl ⟨by rfl, ?_⟩) ?_ ?_
  rotate_left
  · intro w'
    go_simp
    with_reducible rfl
  rotate_left
  · simp only [Act.put, List.setIfInBounds_toArray, List.set_cons_zero, List.set_cons_succ, i64_w, i32_w]
    rfl
  refine pure_ (i := 2) (N := some 9) (v := ?_) (a' := ?_) #[true, false, true, false, false, false, false, false, false, false, false, false] rfl rfl (any_of HT_.out (by kernel_rfl)) (fun _ _ _ h => h) (Or.inl ⟨by rfl, ?_⟩) ?_ ?_
  rotate_left
  · intro w'
    go_simp
    with_reducible rfl
  rotate_left
  · simp only [Act.put, List.setIfInBounds_toArray, List.set_cons_zero, List.set_cons_succ, i64_w, i32_w]
    rfl
  refine pure_ (i := 5) (N := some 12) (v := ?_) (a' := ?_) #[true, false, true, false, false, true, false, false, false, false, false, false] rfl rfl (any_of HT_.out (by kernel_rfl)) (fun _ _ _ h => h) (Or.inl ⟨by rfl, ?_⟩) ?_ ?_
  rotate_left
  · intro w'
    go_simp
    with_reducible rfl
  rotate_left
  · simp only [Act.put, List.setIfInBounds_toArray, List.set_cons_zero, List.set_cons_succ, i64_w, i32_w]
    rfl
  refine take_ (i := 1) (N := some 8) (v := ?_) (a' := ?_) #[true, true, true, false, false, true, false, false, false, false, false, false] rfl rfl (take_ofW HT_.out HW_.out (by kernel_rfl)) (fun _ _ _ h => h) (Or.inl ⟨by rfl, ?_⟩) hHeld ?_ ?_
  rotate_left
  · rintro w' ⟨s0, s1, s2, s3, s4, s5⟩
    go_simp
    with_reducible rfl
  rotate_left
  · simp only [Act.put, List.setIfInBounds_toArray, List.set_cons_zero, List.set_cons_succ, i64_w, i32_w]
    rfl
  refine take_ (i := 3) (N := some 10) (v := ?_) (a' := ?_) #[true, true, true, true, false, true, false, false, false, false, false, false] rfl rfl (take_ofW HT_.out HW_.out (by kernel_rfl)) (fun _ _ _ h => h) (Or.inl ⟨by rfl, ?_⟩) hHeld ?_ ?_
  rotate_left
  · rintro w' ⟨s0, s1, s2, s3, s4, s5⟩
    go_simp
    with_reducible rfl
  rotate_left
  · simp only [Act.put, List.setIfInBounds_toArray, List.set_cons_zero, List.set_cons_succ, i64_w, i32_w]
    rfl
  refine pure_ (i := 4) (N := some 11) (v := ?_) (a' := ?_) #[true, true, true, true, true, true, false, false, false, false, false, false] rfl rfl (any_of HT_.out (by kernel_rfl)) (fun _ _ _ h => h) (Or.inl ⟨by rfl, ?_⟩) ?_ ?_
  rotate_left
  · intro w'
    go_simp
    with_reducible rfl
  rotate_left
  · simp only [Act.put, List.setIfInBounds_toArray, List.set_cons_zero, List.set_cons_succ, i64_w, i32_w]
    rfl
  refine take_ (i := 6) (N := some 13) (v := ?_) (a' := ?_) #[true, true, true, true, true, true, true, false, false, false, false, false] rfl rfl (take_ofW HT_.out HW_.out (by kernel_rfl)) (fun _ _ _ h => h) (Or.inl ⟨by rfl, ?_⟩) hHeld ?_ ?_
  rotate_left
  · rintro w' ⟨s0, s1, s2, s3, s4, s5⟩
    go_simp
    with_reducible rfl
  rotate_left
  · simp only [Act.put, List.setIfInBounds_toArray, List.set_cons_zero, List.set_cons_succ, i64_w, i32_w]
    rfl
  refine take_ (i := 7) (N := some 14) (v := ?_) (a' := ?_) #[true, true, true, true, true, true, true, true, false, false, false, false] rfl rfl (take_ofW HT_.out HW_.out (by kernel_rfl)) (fun _ _ _ h => h) (Or.inl ⟨by rfl, ?_⟩) hHeld ?_ ?_
  rotate_left
  · rintro w' ⟨s0, s1, s2, s3, s4, s5⟩
    go_simp
    with_reducible rfl
  rotate_left
  · simp only [Act.put, List.setIfInBounds_toArray, List.set_cons_zero, List.set_cons_succ, i64_w, i32_w]
    rfl
  refine one_ (i := 8) (N := some 15) #[true, true, true, true, true, true, true, true, true, false, false, false] rfl rfl (one_of HT_.out (by kernel_rfl)) (by decide) (fun K hK => ?_)
  refine goes_ Try.func125 (by kernel_rfl) rfl #[.int .i64 a0, .agg #[.int .i64 a1_0, .int .i64 a1_1, .int .i64 a1_2], .agg #[.int .i64 a2_0, .int .i64 a2_1, .int .i64 a2_2]] (by rfl) rfl rfl (by (try simp only [List.map_toArray, List.map_cons, List.map_nil]); first | done | rfl | (simp only [List.length_drop, List.length_take]; rfl)) ?_
  with_reducible refine (impl_joinLevel.calls k a0 a1_0 a1_1 a1_2 a2_0 a2_1 a2_2 t484 _ A4.out).mono ?_
  rintro e w8 ⟨rfl, hb⟩
  refine ⟨_, rfl, ?_⟩
  have n0_ := Aside0.mk (blk_below (bkA BK482) hb)
  have n1_ := Aside0.mk (blk_below (bkA BK483) hb)
  have n2_ := Aside0.mk (below_step blA hb)
  clear BK482
  clear BK483
  clear HB
  have BK482 := n0_
  have BK483 := n1_
  have HB := n2_
  clear n0_ n1_ n2_
  (try clear hb)
  (try clear hb2)
  (try clear hk)
  (try clear hi)
  refine hK.out _ _ ⟨(blk_cell BK482.out 0).trans rfl, (blk_cell BK482.out 1).trans rfl, (blk_cell BK482.out 2).trans rfl, (blk_cell BK483.out 0).trans rfl, (blk_cell BK483.out 1).trans rfl, (blk_cell BK483.out 2).trans rfl⟩ (fun hHeld => ?_)
  clear hK K
  refine norm_ (a' := ?_) ?_ ?_
  rotate_left
  · show Act.put _ (some 15) _ = _
    simp only [Act.put, List.setIfInBounds_toArray, List.set_cons_zero, List.set_cons_succ, i64_w, i32_w]
    rfl
  refine pure_ (i := 9) (N := some 16) (v := ?_) (a' := ?_) #[true, true, true, true, true, true, true, true, true, true, false, false] rfl rfl (any_of HT_.out (by kernel_rfl)) (fun _ _ _ h => h) (Or.inl ⟨by rfl, ?_⟩) ?_ ?_
  rotate_left
  · intro w'
    go_simp
    with_reducible rfl
  rotate_left
  · simp only [Act.put, List.setIfInBounds_toArray, List.set_cons_zero, List.set_cons_succ, i64_w, i32_w]
    rfl
  refine pure_ (i := 10) (N := some 17) (v := ?_) (a' := ?_) #[true, true, true, true, true, true, true, true, true, true, true, false] rfl rfl (any_of HT_.out (by kernel_rfl)) (fun _ _ _ h => h) (Or.inl ⟨by rfl, ?_⟩) ?_ ?_
  rotate_left
  · intro w'
    go_simp
    with_reducible rfl
  rotate_left
  · simp only [Act.put, List.setIfInBounds_toArray, List.set_cons_zero, List.set_cons_succ, i64_w, i32_w]
    rfl
  refine pure_ (i := 11) (N := some 6) (v := ?_) (a' := ?_) #[true, true, true, true, true, true, true, true, true, true, true, true] rfl rfl (any_of HT_.out (by kernel_rfl)) (fun _ _ _ h => h) (Or.inl ⟨by rfl, ?_⟩) ?_ ?_
  rotate_left
  · intro w'
    go_simp
    with_reducible rfl
  rotate_left
  · simp only [Act.put, List.setIfInBounds_toArray, List.set_cons_zero, List.set_cons_succ, i64_w, i32_w]
    rfl
  refine done_ (done_of HT_.out (by kernel_rfl)) ?_
  try go_wp2
  go_ret
  exact ⟨by first | rfl | (simp [errW_none, errW_some] <;> rfl) | (simp [*, errW_none, errW_some] <;> rfl), blA⟩
/-! ### impl_geodesic: function 71 -/
mutual
def impl_geodesic.l0 : Nat → Int → Int → List (S34) → Int → Int → Int → Int → Int → Int → Int → Option ((List (S34)))
  | 0, _, _, _, _, _, _, _, _, _, _ => none
  | k + 1, x0, x7, x8, x9, x500000, x500001, x500002, x501000, x501001, x501002 => if x9 ≥ x7 then ((impl_above.f k x0 x500000 x500001 x500002 x9).bind fun bt505 => (if x8.length < 5864062014805 then (impl_geodesic.l0 k x0 x7 (x8 ++ [(⟨bt505.1, bt505.2.1, bt505.2.2⟩ : S34)]) (wrap64 (x9 - 1)) x500000 x500001 x500002 x501000 x501001 x501002) else (none))) else (impl_geodesic.l1 k x0 x8 (wrap64 (x7 + 1)) x501000 x501001 x501002)
def impl_geodesic.l1 : Nat → Int → List (S34) → Int → Int → Int → Int → Option ((List (S34)))
  | 0, _, _, _, _, _, _ => none
  | k + 1, x0, x8, x10, x501000, x501001, x501002 => if x10 ≤ x501000 then ((impl_above.f k x0 x501000 x501001 x501002 x10).bind fun bt511 => (if x8.length < 5864062014805 then (impl_geodesic.l1 k x0 (x8 ++ [(⟨bt511.1, bt511.2.1, bt511.2.2⟩ : S34)]) (wrap64 (x10 + 1)) x501000 x501001 x501002) else (none))) else (some x8)
end
def impl_geodesic.f (k : Nat) (a0 : Int) (a1_0 : Int) (a1_1 : Int) (a1_2 : Int) (a2_0 : Int) (a2_1 : Int) (a2_2 : Int) : Option ((List (S34))) := (impl_joinLevel.f k a0 a1_0 a1_1 a1_2 a2_0 a2_1 a2_2).bind fun t501 => (impl_geodesic.l0 k a0 t501 (([] : List (S34))) a1_0 a1_0 a1_1 a1_2 a2_0 a2_1 a2_2)
theorem impl_geodesic.mono_l : ∀ k, (∀ y0 y1 y2 y3 y4 y5 y6 y7 y8 y9, LeO (impl_geodesic.l0 k y0 y1 y2 y3 y4 y5 y6 y7 y8 y9) (impl_geodesic.l0 (k + 1) y0 y1 y2 y3 y4 y5 y6 y7 y8 y9)) ∧ (∀ y0 y1 y2 y3 y4 y5, LeO (impl_geodesic.l1 k y0 y1 y2 y3 y4 y5) (impl_geodesic.l1 (k + 1) y0 y1 y2 y3 y4 y5))
  | 0 => ⟨fun _ _ _ _ _ _ _ _ _ _ r h => by simp [impl_geodesic.l0] at h, fun _ _ _ _ _ _ r h => by simp [impl_geodesic.l1] at h⟩
  | k + 1 => by
    obtain ⟨ih0, ih1⟩ := impl_geodesic.mono_l k
    refine ⟨?_, ?_⟩
    · intro y0 y1 y2 y3 y4 y5 y6 y7 y8 y9
      unfold impl_geodesic.l0
      repeat' first
      | (with_reducible exact ih0 _ _ _ _ _ _ _ _ _ _)
      | (with_reducible exact ih1 _ _ _ _ _ _)
      | (with_reducible exact impl_above.mono _ _ _ _ _ _)
      | (with_reducible exact impl_joinLevel.mono _ _ _ _ _ _ _ _)
      | (with_reducible exact LeO.refl _)
      | (with_reducible exact LeO.none _)
      | (with_reducible refine LeO.ite ?_ ?_)
      | (with_reducible refine LeO.bind ?_ (fun _ => ?_))
      | exact ih0 _ _ _ _ _ _ _ _ _ _
      | exact ih1 _ _ _ _ _ _
      | exact impl_above.mono _ _ _ _ _ _
      | exact impl_joinLevel.mono _ _ _ _ _ _ _ _
      | exact LeO.none _
      | refine LeO.ite ?_ ?_
      | refine LeO.bind ?_ (fun _ => ?_)
    · intro y0 y1 y2 y3 y4 y5
      unfold impl_geodesic.l1
      repeat' first
      | (with_reducible exact ih0 _ _ _ _ _ _ _ _ _ _)
      | (with_reducible exact ih1 _ _ _ _ _ _)
      | (with_reducible exact impl_above.mono _ _ _ _ _ _)
      | (with_reducible exact impl_joinLevel.mono _ _ _ _ _ _ _ _)
      | (with_reducible exact LeO.refl _)
      | (with_reducible exact LeO.none _)
      | (with_reducible refine LeO.ite ?_ ?_)
      | (with_reducible refine LeO.bind ?_ (fun _ => ?_))
      | exact ih0 _ _ _ _ _ _ _ _ _ _
      | exact ih1 _ _ _ _ _ _
      | exact impl_above.mono _ _ _ _ _ _
      | exact impl_joinLevel.mono _ _ _ _ _ _ _ _
      | exact LeO.none _
      | refine LeO.ite ?_ ?_
      | refine LeO.bind ?_ (fun _ => ?_)
theorem impl_geodesic.mono : ∀ a0 a1 a2 a3 a4 a5 a6 k, LeO (impl_geodesic.f k a0 a1 a2 a3 a4 a5 a6) (impl_geodesic.f (k + 1) a0 a1 a2 a3 a4 a5 a6) := by
  intro a0 a1 a2 a3 a4 a5 a6 k
  obtain ⟨ih0, ih1⟩ := impl_geodesic.mono_l k
  unfold impl_geodesic.f
  repeat' first
      | (with_reducible exact ih0 _ _ _ _ _ _ _ _ _ _)
      | (with_reducible exact ih1 _ _ _ _ _ _)
      | (with_reducible exact impl_above.mono _ _ _ _ _ _)
      | (with_reducible exact impl_joinLevel.mono _ _ _ _ _ _ _ _)
      | (with_reducible exact LeO.refl _)
      | (with_reducible exact LeO.none _)
      | (with_reducible refine LeO.ite ?_ ?_)
      | (with_reducible refine LeO.bind ?_ (fun _ => ?_))
      | exact ih0 _ _ _ _ _ _ _ _ _ _
      | exact ih1 _ _ _ _ _ _
      | exact impl_above.mono _ _ _ _ _ _
      | exact impl_joinLevel.mono _ _ _ _ _ _ _ _
      | exact LeO.none _
      | refine LeO.ite ?_ ?_
      | refine LeO.bind ?_ (fun _ => ?_)
set_option maxHeartbeats 8000000 in
set_option maxRecDepth 100000 in
theorem impl_geodesic.calls (k : Nat) (a0 : Int) (a1_0 : Int) (a1_1 : Int) (a1_2 : Int) (a2_0 : Int) (a2_1 : Int) (a2_2 : Int) (r : List (S34)) (w : World) (h : impl_geodesic.f k a0 a1_0 a1_1 a1_2 a2_0 a2_1 a2_2 = some r) :
    Calls Try.prog 71 #[.int .i64 a0, .agg #[.int .i64 a1_0, .int .i64 a1_1, .int .i64 a1_2], .agg #[.int .i64 a2_0, .int .i64 a2_1, .int .i64 a2_2]] w fun e w' => ∃ v0_ : Value, e = .returned (v0_) ∧ Kd.R k34 34 w' w.heap.size (fun _ => True) v0_ r ∧ Below w.heap.size w w' := by
  have hu34 := Try.underlying34
  have HB := Aside0.mk (Below.refl w.heap.size w)
  have H : ((impl_joinLevel.f k a0 a1_0 a1_1 a1_2 a2_0 a2_1 a2_2).bind fun t501 => (impl_geodesic.l0 k a0 t501 (([] : List (S34))) a1_0 a1_0 a1_1 a1_2 a2_0 a2_1 a2_2)) = some r := h
  clear h
  replace H := Option.bind_eq_some_iff.mp H
  obtain ⟨t501, A40, H⟩ := H
  replace H : (impl_geodesic.l0 k a0 t501 (([] : List (S34))) a1_0 a1_0 a1_1 a1_2 a2_0 a2_1 a2_2) = some r := H
  have A4 := Aside0.mk A40
  clear A40
  obtain ⟨y502, hy502⟩ : ∃ y_ : List (S34), y_ = (([] : List (S34))) := ⟨_, rfl⟩
  replace H : (impl_geodesic.l0 k a0 t501 y502 a1_0 a1_0 a1_1 a1_2 a2_0 a2_1 a2_2) = some r := by first | (rw [hy502]; with_reducible exact H) | (have H2_ := (Option.bind_some _ _).symm.trans H; rw [hy502]; with_reducible exact H2_) | (have H2_ := (Option.bind_some _ _).symm.trans H; with_reducible exact H2_) | with_reducible exact H | (rw [hy502]; exact H) | exact H
  have Ny502 := Aside0.mk hy502
  clear hy502
  have H' := Aside0.mk H
  clear H
  go_enter Try.func71, Try.ntmps71
  go_wp2_with (first | ((with_reducible refine gate_dst (N := 4) rfl ?_); refine box_event ?hg (N := 4) ?hd (cs := #[.int .i64 a1_0, .int .i64 a1_1, .int .i64 a1_2]) (t := 34) ?hr ?_; (case hd => rfl); (case hg => rfl); (case hr => first | (go_simp; done) | (go_simp; rfl)); intro gb499 hg w5 hbox hb; have n0_ := Aside0.mk (below_step blA hb); have n1_ := Aside0.mk (hbox); have n2_ := Aside0.mk (szA hg blA); have n3_ := Aside0.mk (szA hg blA); clear HB; have HB := n0_; have BK499 := n1_; have GW499 := n2_; have GE499 := n3_; clear n0_ n1_ n2_ n3_; clear hb hbox hg) | ((with_reducible refine gate_dst (N := 5) rfl ?_); refine box_event ?hg (N := 5) ?hd (cs := #[.int .i64 a2_0, .int .i64 a2_1, .int .i64 a2_2]) (t := 34) ?hr ?_; (case hd => rfl); (case hg => rfl); (case hr => first | (go_simp; done) | (go_simp; rfl)); intro gb500 hg w6 hbox hb; have n0_ := Aside0.mk (blk_below (bkA BK499) hb); have n1_ := Aside0.mk (below_step blA hb); have n2_ := Aside0.mk (hbox); have n3_ := Aside0.mk (szA hg blA); have n4_ := Aside0.mk (szA hg blA); have n5_ := Aside0.mk (neA hg (bkA BK499)); have n6_ := Aside0.mk (neB hg (bkA BK499)); clear BK499; clear HB; have BK499 := n0_; have HB := n1_; have BK500 := n2_; have GW500 := n3_; have GE500 := n4_; have NB499_500 := n5_; have NB500_499 := n6_; clear n0_ n1_ n2_ n3_ n4_ n5_ n6_; clear hb hbox hg; have hnb7 := NB499_500.out; have hnc7 := NB500_499.out; have hcz8_0 : w6.cell? ⟨gb499, 0, none⟩ = some (.int .i64 a1_0) := (blk_cell BK499.out 0).trans rfl; have hcz8_1 : w6.cell? ⟨gb499, 1, none⟩ = some (.int .i64 a1_1) := (blk_cell BK499.out 1).trans rfl; have hcz8_2 : w6.cell? ⟨gb499, 2, none⟩ = some (.int .i64 a1_2) := (blk_cell BK499.out 2).trans rfl; have hfz8_0 := blk_frozen BK499.out 0; have hfz8_1 := blk_frozen BK499.out 1; have hfz8_2 := blk_frozen BK499.out 2; have hcz9_0 : w6.cell? ⟨gb500, 0, none⟩ = some (.int .i64 a2_0) := (blk_cell BK500.out 0).trans rfl; have hcz9_1 : w6.cell? ⟨gb500, 1, none⟩ = some (.int .i64 a2_1) := (blk_cell BK500.out 1).trans rfl; have hcz9_2 : w6.cell? ⟨gb500, 2, none⟩ = some (.int .i64 a2_2) := (blk_cell BK500.out 2).trans rfl; have hfz9_0 := blk_frozen BK500.out 0; have hfz9_1 := blk_frozen BK500.out 1; have hfz9_2 := blk_frozen BK500.out 2) | ((with_reducible refine gate_callee (f := 125) rfl ?_); refine goesL_ (some 14) rfl rfl Try.func125 (by kernel_rfl) rfl #[.int .i64 a0, .agg #[.int .i64 a1_0, .int .i64 a1_1, .int .i64 a1_2], .agg #[.int .i64 a2_0, .int .i64 a2_1, .int .i64 a2_2]] rfl (by (try simp only [List.map_toArray, List.map_cons, List.map_nil]); first | done | rfl | (simp only [List.length_drop, List.length_take]; rfl)) ?_; (with_reducible refine (impl_joinLevel.calls k a0 a1_0 a1_1 a1_2 a2_0 a2_1 a2_2 t501 _ A4.out).mono ?_); rintro e w10 ⟨rfl, hb⟩; refine ⟨_, rfl, ?_⟩; have n0_ := Aside0.mk (blk_below (bkA BK499) hb); have n1_ := Aside0.mk (blk_below (bkA BK500) hb); have n2_ := Aside0.mk (below_step blA hb); clear BK499; clear BK500; clear HB; have BK499 := n0_; have BK500 := n1_; have HB := n2_; clear n0_ n1_ n2_; (try clear hb); (try clear hb2); (try clear hk); (try clear hi)) | ((with_reducible refine gate_dst (N := 15) rfl ?_); refine Kd.R_lit k34 _ 34 ?hg (N := 15) ?hd (xs := ([] : List (S34))) (inner := []) (ok := fun _ => True) (okp := fun _ => True) ?hr ?hp (fun _ hk => hk) trivial (Below.refl _ _) (Nat.le_refl _) (by simp) ?_; (case hd => rfl); (case hg => rfl); (case hr => first | (go_simp; done) | (go_simp; rfl)); (case hp => exact (Reps.none _ _)); intro v503 w11 ho12 hb hg_ hnew_; clear hg_ hnew_; (first | rw [← Ny502.out] at ho12 | (simp only [Int.reduceToNat] at ho12; rw [← Ny502.out] at ho12)); have n0_ := Aside0.mk (Kd.R_lower (Kd.R_newB (Kd.R_newB ho12 (bkA BK499)) (bkA BK500)) (below_size blA)); have n1_ := Aside0.mk (blk_below (bkA BK499) hb); have n2_ := Aside0.mk (blk_below (bkA BK500) hb); have n3_ := Aside0.mk (below_step blA hb); clear BK499; clear BK500; clear HB; have HO504 := n0_; have BK499 := n1_; have BK500 := n2_; have HB := n3_; clear n0_ n1_ n2_ n3_; clear hb ho12; have hcz13_0 : w11.cell? ⟨gb499, 0, none⟩ = some (.int .i64 a1_0) := (blk_cell BK499.out 0).trans rfl; have hcz13_1 : w11.cell? ⟨gb499, 1, none⟩ = some (.int .i64 a1_1) := (blk_cell BK499.out 1).trans rfl; have hcz13_2 : w11.cell? ⟨gb499, 2, none⟩ = some (.int .i64 a1_2) := (blk_cell BK499.out 2).trans rfl; have hfz13_0 := blk_frozen BK499.out 0; have hfz13_1 := blk_frozen BK499.out 1; have hfz13_2 := blk_frozen BK499.out 2))
  go_loopg [8, 9] k (fun kq v8 v9 w' => ∃ (x8_1 : List (S34)) (x9_1 : Int), v9 = .int .i64 x9_1 ∧ Aside0 (impl_geodesic.l0 kq a0 t501 x8_1 x9_1 a1_0 a1_1 a1_2 a2_0 a2_1 a2_2 = some r) ∧ Aside0 (kq ≤ k) ∧ Aside0 (Kd.R k34 34 w' w.heap.size (fun k_ => k_ ≠ gb499 ∧ k_ ≠ gb500) v8 x8_1) ∧ Aside0 (w'.heap[gb499]? = some (.cells #[.int .i64 a1_0, .int .i64 a1_1, .int .i64 a1_2] 34 (0, 0))) ∧ Aside0 (w'.heap[gb500]? = some (.cells #[.int .i64 a2_0, .int .i64 a2_1, .int .i64 a2_2] 34 (0, 0))) ∧ Aside0 (Below w.heap.size w w'))
  case atStart => exact ⟨(y502), (a1_0), (by first | rfl | (simp; done) | (simp [*]; done)), H', ⟨Nat.le_refl _⟩, ⟨by (with_reducible repeat (first | apply Kd.R_alloc | apply Kd.R_drewN | apply Kd.R_drew)); exact Kd.R_mono HO504.out (fun _ hk => ⟨hk.1.2, hk.2⟩)⟩, ⟨bkA BK499⟩, ⟨bkA BK500⟩, ⟨blA⟩⟩
  case round =>
    clear H'
    try clear c1
    try clear p2
    try clear c7
    try clear c12
    try clear hcz13_0
    try clear hcz13_1
    try clear hcz13_2
    try clear hcz8_0
    try clear hcz8_1
    try clear hcz8_2
    try clear hcz9_0
    try clear hcz9_1
    try clear hcz9_2
    try clear hfz13_0
    try clear hfz13_1
    try clear hfz13_2
    try clear hfz8_0
    try clear hfz8_1
    try clear hfz8_2
    try clear hfz9_0
    try clear hfz9_1
    try clear hfz9_2
    obtain ⟨x8_1, x9_1, rfl, HA, HK1, HO_8, BK499, BK500, HB⟩ := hrel
    cases gk with
    | zero => exact absurd HA.out (by simp [impl_geodesic.l0])
    | succ k1 =>
      have H := HA.out
      clear HA
      simp only [impl_geodesic.l0] at H
      by_cases c14 : x9_1 ≥ t501
      · rw [if_pos c14] at H
        have c14b0 : decide (t501 ≤ x9_1) = true := decide_eq_true c14
        clear c14
        replace H := Option.bind_eq_some_iff.mp H
        obtain ⟨⟨t505, t506, t507⟩, A150, H⟩ := H
        replace H : (if x8_1.length < 5864062014805 then (impl_geodesic.l0 k1 a0 t501 (x8_1 ++ [(⟨t505, t506, t507⟩ : S34)]) (wrap64 (x9_1 - 1)) a1_0 a1_1 a1_2 a2_0 a2_1 a2_2) else (none)) = some r := H
        have A15 := Aside0.mk A150
        clear A150
        by_cases c16 : x8_1.length < 5864062014805
        · rw [if_pos c16] at H
          have LMc16 := Aside0.mk c16
          clear c16
          obtain ⟨y508, hy508⟩ : ∃ y_ : List (S34), y_ = (x8_1 ++ [(⟨t505, t506, t507⟩ : S34)]) := ⟨_, rfl⟩
          replace H : (impl_geodesic.l0 k1 a0 t501 y508 (wrap64 (x9_1 - 1)) a1_0 a1_1 a1_2 a2_0 a2_1 a2_2) = some r := by first | (rw [hy508]; with_reducible exact H) | (have H2_ := (Option.bind_some _ _).symm.trans H; rw [hy508]; with_reducible exact H2_) | (have H2_ := (Option.bind_some _ _).symm.trans H; with_reducible exact H2_) | with_reducible exact H | (rw [hy508]; exact H) | exact H
          have Ny508 := Aside0.mk hy508
          clear hy508
          have H' := Aside0.mk H
          clear H
          have hnb17 := NB499_500.out
          have hnc17 := NB500_499.out
          have hcz18_0 : wr.cell? ⟨gb499, 0, none⟩ = some (.int .i64 a1_0) := (blk_cell BK499.out 0).trans rfl
          have hcz18_1 : wr.cell? ⟨gb499, 1, none⟩ = some (.int .i64 a1_1) := (blk_cell BK499.out 1).trans rfl
          have hcz18_2 : wr.cell? ⟨gb499, 2, none⟩ = some (.int .i64 a1_2) := (blk_cell BK499.out 2).trans rfl
          have hfz18_0 := blk_frozen BK499.out 0
          have hfz18_1 := blk_frozen BK499.out 1
          have hfz18_2 := blk_frozen BK499.out 2
          go_wp2_with (first | ((with_reducible refine gate_callee (f := 126) rfl ?_); refine goesL_ (some 27) rfl rfl Try.func126 (by kernel_rfl) rfl #[.int .i64 a0, .agg #[.int .i64 a1_0, .int .i64 a1_1, .int .i64 a1_2], .int .i64 x9_1] rfl (by (try simp only [List.map_toArray, List.map_cons, List.map_nil]); first | done | rfl | (simp only [List.length_drop, List.length_take]; rfl)) ?_; (with_reducible refine (impl_above.calls k1 a0 a1_0 a1_1 a1_2 x9_1 t505 t506 t507 _ A15.out).mono ?_); rintro e w19 ⟨rfl, hb⟩; refine ⟨_, rfl, ?_⟩; have n0_ := Aside0.mk (Kd.R_below (by (with_reducible repeat (first | apply Kd.R_alloc | apply Kd.R_drewN | apply Kd.R_drew)); exact HO_8.out) hb); have n1_ := Aside0.mk (blk_below (bkA BK499) hb); have n2_ := Aside0.mk (blk_below (bkA BK500) hb); have n3_ := Aside0.mk (below_step blA hb); clear HO_8; clear BK499; clear BK500; clear HB; have HO_8 := n0_; have BK499 := n1_; have BK500 := n2_; have HB := n3_; clear n0_ n1_ n2_ n3_; (try clear hb); (try clear hb2); (try clear hk); (try clear hi)) | ((with_reducible refine gate_builtin (b := .append) (xs := #[.tmp 23, .tmp 28]) rfl ?_); at_builtin; refine Kd.R_append k34 (w0 := w) w.heap.size rfl (.tmp 23) (.tmp 28) 56 34 (.agg #[(.int .i64 0), (.int .i64 0), (.int .i64 0)]) 24 rfl Try.underlying56 info34 rfl (by decide) (by omega) u8 x8_1 (⟨t505, t506, t507⟩ : S34) [.int .i64 t505, .int .i64 t506, .int .i64 t507] (fun k_ => k_ ≠ gb499 ∧ k_ ≠ gb500) (fun _ => False) rfl rfl ?aP (fun _ hk => hk.elim) ?aF ?aO ?aB ?aS ?aL ?_; (case aP => exact k34_mkM _ _ _ (⟨t505, t506, t507⟩ : S34)); (case aB => exact blA); (case aF => exact (fun k_ hk => ⟨Kd.freshB (bkA BK499) k_ hk, Kd.freshB (bkA BK500) k_ hk⟩)); (case aO => exact (by (with_reducible repeat (first | apply Kd.R_alloc | apply Kd.R_drewN | apply Kd.R_drew)); exact HO_8.out)); (case aS => exact (below_size blA)); (case aL => have := LMc16.out; omega); intro v509 w20 ho hb hg hat; rw [← Ny508.out] at ho; have n0_ := Aside0.mk (blk_grown (bkA BK499) hg (Kd.R_away HO_8.out (fun _ hk => hk.1))); have n1_ := Aside0.mk (blk_grown (bkA BK500) hg (Kd.R_away HO_8.out (fun _ hk => hk.2))); have n2_ := Aside0.mk (hb); have n3_ := Aside0.mk (ho); clear BK499; clear BK500; clear HB; clear HO_8; have BK499 := n0_; have BK500 := n1_; have HB := n2_; have HO510 := n3_; clear n0_ n1_ n2_ n3_; clear ho hb hg hat))
          go_roundg k1
          case measure => have := HK1.out; omega
          case rel => exact ⟨(y508), (wrap64 (x9_1 - 1)), (by first | rfl | (simp; done) | (simp [*]; done)), H', ⟨by have := HK1.out; omega⟩, ⟨by (with_reducible repeat (first | apply Kd.R_alloc | apply Kd.R_drewN | apply Kd.R_drew)); exact HO510.out⟩, ⟨bkA BK499⟩, ⟨bkA BK500⟩, ⟨blA⟩⟩
        · rw [if_neg c16] at H
          exact absurd H (by simp)
      · rw [if_neg c14] at H
        have c14b0 : decide (t501 ≤ x9_1) = false := decide_eq_false c14
        clear c14
        have H' := Aside0.mk H
        clear H
        go_wp2
        go_loopg [8, 10] k1 (fun kq v8 v10 w' => ∃ (x8_2 : List (S34)) (x10_2 : Int), v10 = .int .i64 x10_2 ∧ Aside0 (impl_geodesic.l1 kq a0 x8_2 x10_2 a2_0 a2_1 a2_2 = some r) ∧ Aside0 (kq ≤ k1) ∧ Aside0 (Kd.R k34 34 w' w.heap.size (fun k_ => k_ ≠ gb499 ∧ k_ ≠ gb500) v8 x8_2) ∧ Aside0 (w'.heap[gb499]? = some (.cells #[.int .i64 a1_0, .int .i64 a1_1, .int .i64 a1_2] 34 (0, 0))) ∧ Aside0 (w'.heap[gb500]? = some (.cells #[.int .i64 a2_0, .int .i64 a2_1, .int .i64 a2_2] 34 (0, 0))) ∧ Aside0 (Below w.heap.size w w'))
        case atStart => exact ⟨(x8_1), (wrap64 (t501 + 1)), (by first | rfl | (simp; done) | (simp [*]; done)), H', ⟨Nat.le_refl _⟩, ⟨by (with_reducible repeat (first | apply Kd.R_alloc | apply Kd.R_drewN | apply Kd.R_drew)); exact HO_8.out⟩, ⟨bkA BK499⟩, ⟨bkA BK500⟩, ⟨blA⟩⟩
        case round =>
          clear H'
          try clear c1
          try clear p2
          try clear p6
          try clear c7
          try clear c12
          try clear c14
          try clear c14b0
          try clear c16
          try clear c17
          try clear hcz13_0
          try clear hcz13_1
          try clear hcz13_2
          try clear hcz18_0
          try clear hcz18_1
          try clear hcz18_2
          try clear hcz8_0
          try clear hcz8_1
          try clear hcz8_2
          try clear hcz9_0
          try clear hcz9_1
          try clear hcz9_2
          try clear hfz13_0
          try clear hfz13_1
          try clear hfz13_2
          try clear hfz18_0
          try clear hfz18_1
          try clear hfz18_2
          try clear hfz8_0
          try clear hfz8_1
          try clear hfz8_2
          try clear hfz9_0
          try clear hfz9_1
          try clear hfz9_2
          try clear p2
          obtain ⟨x8_2, x10_2, rfl, HA, HK2, HO_8, BK499, BK500, HB⟩ := hrel
          cases gk with
          | zero => exact absurd HA.out (by simp [impl_geodesic.l1])
          | succ k2 =>
            have H := HA.out
            clear HA
            simp only [impl_geodesic.l1] at H
            by_cases c21 : x10_2 ≤ a2_0
            · rw [if_pos c21] at H
              have c21b0 : decide (x10_2 ≤ a2_0) = true := decide_eq_true c21
              clear c21
              replace H := Option.bind_eq_some_iff.mp H
              obtain ⟨⟨t511, t512, t513⟩, A220, H⟩ := H
              replace H : (if x8_2.length < 5864062014805 then (impl_geodesic.l1 k2 a0 (x8_2 ++ [(⟨t511, t512, t513⟩ : S34)]) (wrap64 (x10_2 + 1)) a2_0 a2_1 a2_2) else (none)) = some r := H
              have A22 := Aside0.mk A220
              clear A220
              by_cases c23 : x8_2.length < 5864062014805
              · rw [if_pos c23] at H
                have LMc23 := Aside0.mk c23
                clear c23
                obtain ⟨y514, hy514⟩ : ∃ y_ : List (S34), y_ = (x8_2 ++ [(⟨t511, t512, t513⟩ : S34)]) := ⟨_, rfl⟩
                replace H : (impl_geodesic.l1 k2 a0 y514 (wrap64 (x10_2 + 1)) a2_0 a2_1 a2_2) = some r := by first | (rw [hy514]; with_reducible exact H) | (have H2_ := (Option.bind_some _ _).symm.trans H; rw [hy514]; with_reducible exact H2_) | (have H2_ := (Option.bind_some _ _).symm.trans H; with_reducible exact H2_) | with_reducible exact H | (rw [hy514]; exact H) | exact H
                have Ny514 := Aside0.mk hy514
                clear hy514
                have H' := Aside0.mk H
                clear H
                have hnb24 := NB500_499.out
                have hnc24 := NB499_500.out
                have hcz25_0 : wr.cell? ⟨gb500, 0, none⟩ = some (.int .i64 a2_0) := (blk_cell BK500.out 0).trans rfl
                have hcz25_1 : wr.cell? ⟨gb500, 1, none⟩ = some (.int .i64 a2_1) := (blk_cell BK500.out 1).trans rfl
                have hcz25_2 : wr.cell? ⟨gb500, 2, none⟩ = some (.int .i64 a2_2) := (blk_cell BK500.out 2).trans rfl
                have hfz25_0 := blk_frozen BK500.out 0
                have hfz25_1 := blk_frozen BK500.out 1
                have hfz25_2 := blk_frozen BK500.out 2
                go_wp2_with (first | ((with_reducible refine gate_callee (f := 126) rfl ?_); refine goesL_ (some 42) rfl rfl Try.func126 (by kernel_rfl) rfl #[.int .i64 a0, .agg #[.int .i64 a2_0, .int .i64 a2_1, .int .i64 a2_2], .int .i64 x10_2] rfl (by (try simp only [List.map_toArray, List.map_cons, List.map_nil]); first | done | rfl | (simp only [List.length_drop, List.length_take]; rfl)) ?_; (with_reducible refine (impl_above.calls k2 a0 a2_0 a2_1 a2_2 x10_2 t511 t512 t513 _ A22.out).mono ?_); rintro e w26 ⟨rfl, hb⟩; refine ⟨_, rfl, ?_⟩; have n0_ := Aside0.mk (Kd.R_below (by (with_reducible repeat (first | apply Kd.R_alloc | apply Kd.R_drewN | apply Kd.R_drew)); exact HO_8.out) hb); have n1_ := Aside0.mk (blk_below (bkA BK499) hb); have n2_ := Aside0.mk (blk_below (bkA BK500) hb); have n3_ := Aside0.mk (below_step blA hb); clear HO_8; clear BK499; clear BK500; clear HB; have HO_8 := n0_; have BK499 := n1_; have BK500 := n2_; have HB := n3_; clear n0_ n1_ n2_ n3_; (try clear hb); (try clear hb2); (try clear hk); (try clear hi)) | ((with_reducible refine gate_builtin (b := .append) (xs := #[.tmp 38, .tmp 43]) rfl ?_); at_builtin; refine Kd.R_append k34 (w0 := w) w.heap.size rfl (.tmp 38) (.tmp 43) 56 34 (.agg #[(.int .i64 0), (.int .i64 0), (.int .i64 0)]) 24 rfl Try.underlying56 info34 rfl (by decide) (by omega) u8 x8_2 (⟨t511, t512, t513⟩ : S34) [.int .i64 t511, .int .i64 t512, .int .i64 t513] (fun k_ => k_ ≠ gb499 ∧ k_ ≠ gb500) (fun _ => False) rfl rfl ?aP (fun _ hk => hk.elim) ?aF ?aO ?aB ?aS ?aL ?_; (case aP => exact k34_mkM _ _ _ (⟨t511, t512, t513⟩ : S34)); (case aB => exact blA); (case aF => exact (fun k_ hk => ⟨Kd.freshB (bkA BK499) k_ hk, Kd.freshB (bkA BK500) k_ hk⟩)); (case aO => exact (by (with_reducible repeat (first | apply Kd.R_alloc | apply Kd.R_drewN | apply Kd.R_drew)); exact HO_8.out)); (case aS => exact (below_size blA)); (case aL => have := LMc23.out; omega); intro v515 w27 ho hb hg hat; rw [← Ny514.out] at ho; have n0_ := Aside0.mk (blk_grown (bkA BK499) hg (Kd.R_away HO_8.out (fun _ hk => hk.1))); have n1_ := Aside0.mk (blk_grown (bkA BK500) hg (Kd.R_away HO_8.out (fun _ hk => hk.2))); have n2_ := Aside0.mk (hb); have n3_ := Aside0.mk (ho); clear BK499; clear BK500; clear HB; clear HO_8; have BK499 := n0_; have BK500 := n1_; have HB := n2_; have HO516 := n3_; clear n0_ n1_ n2_ n3_; clear ho hb hg hat))
                go_roundg k2
                case measure => have := HK1.out; have := HK2.out; omega
                case rel => exact ⟨(y514), (wrap64 (x10_2 + 1)), (by first | rfl | (simp; done) | (simp [*]; done)), H', ⟨by have := HK1.out; have := HK2.out; omega⟩, ⟨by (with_reducible repeat (first | apply Kd.R_alloc | apply Kd.R_drewN | apply Kd.R_drew)); exact HO516.out⟩, ⟨bkA BK499⟩, ⟨bkA BK500⟩, ⟨blA⟩⟩
              · rw [if_neg c23] at H
                exact absurd H (by simp)
            · rw [if_neg c21] at H
              have c21b0 : decide (x10_2 ≤ a2_0) = false := decide_eq_false c21
              clear c21
              obtain rfl := Option.some.inj H
              have hnb28 := NB500_499.out
              have hnc28 := NB499_500.out
              have hcz29_0 : wr.cell? ⟨gb500, 0, none⟩ = some (.int .i64 a2_0) := (blk_cell BK500.out 0).trans rfl
              have hcz29_1 : wr.cell? ⟨gb500, 1, none⟩ = some (.int .i64 a2_1) := (blk_cell BK500.out 1).trans rfl
              have hcz29_2 : wr.cell? ⟨gb500, 2, none⟩ = some (.int .i64 a2_2) := (blk_cell BK500.out 2).trans rfl
              have hfz29_0 := blk_frozen BK500.out 0
              have hfz29_1 := blk_frozen BK500.out 1
              have hfz29_2 := blk_frozen BK500.out 2
              go_wp2
              go_ret
              exact ⟨_, by first | rfl | (simp [errW_none, errW_some] <;> rfl) | (simp [*, errW_none, errW_some] <;> rfl), by (with_reducible repeat (first | apply Kd.R_alloc | apply Kd.R_drewN | apply Kd.R_drew)); exact Kd.R_mono HO_8.out (fun _ hk => trivial), blA⟩
end Go.Proofs.Ytfkglijnbgijbaa.PAll
