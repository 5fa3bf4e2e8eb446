-- turned for this claim out of the kit's print: the same functions, packed anew
import Derived.Test.YtfkglijnbgijbaaQx
import Derived.Test.YtfkglijnbgijbaaQimplbop0
import Derived.Test.YtfkglijnbgijbaaQimplfitted
import Derived.Test.YtfkglijnbgijbaaQimplneighbour
namespace Go.Proofs.Ytfkglijnbgijbaa.PAll
open Go.RowKit Go.Proofs.YtfkglijnbgijbaaW.PrintWords Go.Proofs.YtfkglijnbgijbaaW.PrintLast Go.Proofs.YtfkglijnbgijbaaW.PrintMore
attribute [local go_sem] Go.Proofs.Ytfkglijnbgijbaa.Aux.setCell_drewN Go.Proofs.Ytfkglijnbgijbaa.Aux.isSome_setCell Go.Proofs.Ytfkglijnbgijbaa.Aux.max_eight max2_int min2_int max_two min_two max_three min_three max_four min_four   -- for this text's walks alone
set_option linter.unusedVariables false
set_option linter.unusedSimpArgs false
/-! ### impl_bopC: function 79 -/
set_option maxHeartbeats 8000000 in
set_option maxRecDepth 100000 in
theorem impl_bopC.arm (k : Nat) (ih : ∀ m, m < k + 1 → ∀ (a0 : Int) (a1_0 : Int) (a1_1 : Int) (a1_2 : Int) (a2 : Int) (r1 : Int) (r2 : Int) (r3 : Int) (r4 : Int) (r5 : Int) (r6 : Int) (r7 : Bool) (w : World) (h : impl_bop0.f m a0 a1_0 a1_1 a1_2 a2 = some (r1, r2, r3, r4, r5, r6, r7)),
    Calls Try.prog 79 #[.int .i64 a0, .agg #[.int .i64 a1_0, .int .i64 a1_1, .int .i64 a1_2], .int .i64 a2] w fun e w' => e = .returned (.tuple #[.agg #[.int .i64 r1, .int .i64 r2, .int .i64 r3], .agg #[.int .i64 r4, .int .i64 r5, .int .i64 r6], .bool r7]) ∧ Below w.heap.size w w') (a0 a1_0 a1_1 a1_2 a2 : Int) (t624 t625 t626 t627 t628 t629 t630 t634 t646 t647 t648 : Int) (t649 : Bool) (w : World) (c4b0 : (a2 == 0) = false) (c4b1 : (a2 != 0) = true) (A15 : Aside0 (impl_parentPlace.f a0 a2 = some t624)) (A16 : Aside0 (impl_bop0.f k a0 a1_0 a1_1 a1_2 t624 = some (t625, t626, t627, t628, t629, t630, true))) (A18 : Aside0 (impl_firstChild.f a0 t624 = some t634)) (c19b0 : decide (0 < t624) = false) (A96 : Aside0 (impl_neighbour.f k a0 t625 t626 t627 (wrap64 (a2 - t634)) = some (t646, t647, t648, t649))) :
    Calls Try.prog 79 #[.int .i64 a0, .agg #[.int .i64 a1_0, .int .i64 a1_1, .int .i64 a1_2], .int .i64 a2] w fun e w' => e = .returned (.tuple #[.agg #[.int .i64 t646, .int .i64 t647, .int .i64 t648], .agg #[.int .i64 t625, .int .i64 t626, .int .i64 t627], .bool t649]) ∧ Below w.heap.size w w' := by
  have hu34 := Try.underlying34
  have HB := Aside0.mk (Below.refl w.heap.size w)
  go_enter Try.func79, Try.ntmps79
  try go_wp2_with (first | ((with_reducible refine gate_dst (N := 4) rfl ?_); refine box_event ?hg (N := 4) ?hd (cs := #[.int .i64 a1_0, .int .i64 a1_1, .int .i64 a1_2]) (t := 34) ?hr ?_; (case hd => rfl); (case hg => rfl); (case hr => first | (go_simp; done) | (go_simp; rfl)); intro gb621 hg w97 hbox hb; have n0_ := Aside0.mk (below_step blA hb); have n1_ := Aside0.mk (hbox); have n2_ := Aside0.mk (szA hg blA); have n3_ := Aside0.mk (szA hg blA); clear HB; have HB := n0_; have BK621 := n1_; have GW621 := n2_; have GE621 := n3_; clear n0_ n1_ n2_ n3_; clear hb hbox hg) | ((with_reducible refine gate_dst (N := 6) rfl ?_); refine box_event ?hg (N := 6) ?hd (cs := #[.int .i64 0, .int .i64 0, .int .i64 0]) (t := 34) ?hr ?_; (case hd => rfl); (case hg => rfl); (case hr => first | (go_simp; done) | (go_simp; rfl)); intro gb622 hg w98 hbox hb; have n0_ := Aside0.mk (blk_below (bkA BK621) hb); have n1_ := Aside0.mk (below_step blA hb); have n2_ := Aside0.mk (hbox); have n3_ := Aside0.mk (szA hg blA); have n4_ := Aside0.mk (szA hg blA); have n5_ := Aside0.mk (neA hg (bkA BK621)); have n6_ := Aside0.mk (neB hg (bkA BK621)); clear BK621; clear HB; have BK621 := n0_; have HB := n1_; have BK622 := n2_; have GW622 := n3_; have GE622 := n4_; have NB621_622 := n5_; have NB622_621 := n6_; clear n0_ n1_ n2_ n3_ n4_ n5_ n6_; clear hb hbox hg) | ((with_reducible refine gate_dst (N := 7) rfl ?_); refine box_event ?hg (N := 7) ?hd (cs := #[.int .i64 0, .int .i64 0, .int .i64 0]) (t := 34) ?hr ?_; (case hd => rfl); (case hg => rfl); (case hr => first | (go_simp; done) | (go_simp; rfl)); intro gb623 hg w99 hbox hb; have n0_ := Aside0.mk (blk_below (bkA BK621) hb); have n1_ := Aside0.mk (blk_below (bkA BK622) hb); have n2_ := Aside0.mk (below_step blA hb); have n3_ := Aside0.mk (hbox); have n4_ := Aside0.mk (szA hg blA); have n5_ := Aside0.mk (szA hg blA); have n6_ := Aside0.mk (neA hg (bkA BK621)); have n7_ := Aside0.mk (neB hg (bkA BK621)); have n8_ := Aside0.mk (neA hg (bkA BK622)); have n9_ := Aside0.mk (neB hg (bkA BK622)); clear BK621; clear BK622; clear HB; have BK621 := n0_; have BK622 := n1_; have HB := n2_; have BK623 := n3_; have GW623 := n4_; have GE623 := n5_; have NB621_623 := n6_; have NB623_621 := n7_; have NB622_623 := n8_; have NB623_622 := n9_; clear n0_ n1_ n2_ n3_ n4_ n5_ n6_ n7_ n8_ n9_; clear hb hbox hg) | ((with_reducible refine gate_callee (f := 87) rfl ?_); refine goesL_ (some 22) rfl rfl Try.func87 (by kernel_rfl) rfl #[.int .i64 a0, .int .i64 a2] rfl (by (try simp only [List.map_toArray, List.map_cons, List.map_nil]); first | done | rfl | (simp only [List.length_drop, List.length_take]; rfl)) ?_; (with_reducible refine (impl_parentPlace.calls a0 a2 t624 _ A15.out).mono ?_); rintro e w' ⟨rfl, ⟨nd, rfl⟩⟩; refine ⟨_, rfl, ?_⟩; (try (rw [drewN_self w99]; generalize hq_ : World.drewN w99 _ = w99; have n0_ : Aside0 (w99.heap[gb621]? = some (.cells #[.int .i64 a1_0, .int .i64 a1_1, .int .i64 a1_2] 34 (0, 0))) := ⟨by rw [← hq_]; exact (bkA BK621)⟩; have n1_ : Aside0 (w99.heap[gb622]? = some (.cells #[.int .i64 0, .int .i64 0, .int .i64 0] 34 (0, 0))) := ⟨by rw [← hq_]; exact (bkA BK622)⟩; have n2_ : Aside0 (w99.heap[gb623]? = some (.cells #[.int .i64 0, .int .i64 0, .int .i64 0] 34 (0, 0))) := ⟨by rw [← hq_]; exact (bkA BK623)⟩; have n3_ : Aside0 (Below w.heap.size w w99) := ⟨by rw [← hq_]; exact blA⟩; clear BK621 BK622 BK623 HB hq_; have BK621 := n0_; have BK622 := n1_; have BK623 := n2_; have HB := n3_; clear n0_ n1_ n2_ n3_)); have hnb100 := NB621_622.out; have hnc100 := NB622_621.out; have hnb101 := NB621_623.out; have hnc101 := NB623_621.out; have hcz102_0 : w99.cell? ⟨gb621, 0, none⟩ = some (.int .i64 a1_0) := (blk_cell BK621.out 0).trans rfl; have hcz102_1 : w99.cell? ⟨gb621, 1, none⟩ = some (.int .i64 a1_1) := (blk_cell BK621.out 1).trans rfl; have hcz102_2 : w99.cell? ⟨gb621, 2, none⟩ = some (.int .i64 a1_2) := (blk_cell BK621.out 2).trans rfl; have hfz102_0 := blk_frozen BK621.out 0; have hfz102_1 := blk_frozen BK621.out 1; have hfz102_2 := blk_frozen BK621.out 2) | ((with_reducible refine gate_callee (f := 79) rfl ?_); refine goesL_ (some 27) rfl rfl Try.func79 (by kernel_rfl) rfl #[.int .i64 a0, .agg #[.int .i64 a1_0, .int .i64 a1_1, .int .i64 a1_2], .int .i64 t624] rfl (by (try simp only [List.map_toArray, List.map_cons, List.map_nil]); first | done | rfl | (simp only [List.length_drop, List.length_take]; rfl)) ?_; (with_reducible refine (ih k (by omega) a0 a1_0 a1_1 a1_2 t624 t625 t626 t627 t628 t629 t630 true _ A16.out).mono ?_); rintro e w103 ⟨rfl, hb⟩; refine ⟨_, rfl, ?_⟩; have n0_ := Aside0.mk (blk_below (bkA BK621) hb); have n1_ := Aside0.mk (blk_below (bkA BK622) hb); have n2_ := Aside0.mk (blk_below (bkA BK623) hb); have n3_ := Aside0.mk (below_step blA hb); clear BK621; clear BK622; clear BK623; clear HB; have BK621 := n0_; have BK622 := n1_; have BK623 := n2_; have HB := n3_; clear n0_ n1_ n2_ n3_; (try clear hb); (try clear hb2); (try clear hk); (try clear hi)) | ((with_reducible refine gate_dst (N := 10) rfl ?_); refine box_event ?hg (N := 10) ?hd (cs := #[.int .i64 0, .int .i64 0, .int .i64 0]) (t := 34) ?hr ?_; (case hd => rfl); (case hg => rfl); (case hr => first | (go_simp; done) | (go_simp; rfl)); intro gb632 hg w104 hbox hb; have n0_ := Aside0.mk (blk_below (bkA BK621) hb); have n1_ := Aside0.mk (blk_below (bkA BK622) hb); have n2_ := Aside0.mk (blk_below (bkA BK623) hb); have n3_ := Aside0.mk (below_step blA hb); have n4_ := Aside0.mk (hbox); have n5_ := Aside0.mk (szA hg blA); have n6_ := Aside0.mk (szA hg blA); have n7_ := Aside0.mk (neA hg (bkA BK621)); have n8_ := Aside0.mk (neB hg (bkA BK621)); have n9_ := Aside0.mk (neA hg (bkA BK622)); have n10_ := Aside0.mk (neB hg (bkA BK622)); have n11_ := Aside0.mk (neA hg (bkA BK623)); have n12_ := Aside0.mk (neB hg (bkA BK623)); clear BK621; clear BK622; clear BK623; clear HB; have BK621 := n0_; have BK622 := n1_; have BK623 := n2_; have HB := n3_; have BK632 := n4_; have GW632 := n5_; have GE632 := n6_; have NB621_632 := n7_; have NB632_621 := n8_; have NB622_632 := n9_; have NB632_622 := n10_; have NB623_632 := n11_; have NB632_623 := n12_; clear n0_ n1_ n2_ n3_ n4_ n5_ n6_ n7_ n8_ n9_ n10_ n11_ n12_; clear hb hbox hg) | ((with_reducible refine gate_dst (N := 11) rfl ?_); refine box_event ?hg (N := 11) ?hd (cs := #[.int .i64 0, .int .i64 0, .int .i64 0]) (t := 34) ?hr ?_; (case hd => rfl); (case hg => rfl); (case hr => first | (go_simp; done) | (go_simp; rfl)); intro gb633 hg w105 hbox hb; have n0_ := Aside0.mk (blk_below (bkA BK621) hb); have n1_ := Aside0.mk (blk_below (bkA BK622) hb); have n2_ := Aside0.mk (blk_below (bkA BK623) hb); have n3_ := Aside0.mk (blk_below (bkA BK632) hb); have n4_ := Aside0.mk (below_step blA hb); have n5_ := Aside0.mk (hbox); have n6_ := Aside0.mk (szA hg blA); have n7_ := Aside0.mk (szA hg blA); have n8_ := Aside0.mk (neA hg (bkA BK621)); have n9_ := Aside0.mk (neB hg (bkA BK621)); have n10_ := Aside0.mk (neA hg (bkA BK622)); have n11_ := Aside0.mk (neB hg (bkA BK622)); have n12_ := Aside0.mk (neA hg (bkA BK623)); have n13_ := Aside0.mk (neB hg (bkA BK623)); have n14_ := Aside0.mk (neA hg (bkA BK632)); have n15_ := Aside0.mk (neB hg (bkA BK632)); clear BK621; clear BK622; clear BK623; clear BK632; clear HB; have BK621 := n0_; have BK622 := n1_; have BK623 := n2_; have BK632 := n3_; have HB := n4_; have BK633 := n5_; have GW633 := n6_; have GE633 := n7_; have NB621_633 := n8_; have NB633_621 := n9_; have NB622_633 := n10_; have NB633_622 := n11_; have NB623_633 := n12_; have NB633_623 := n13_; have NB632_633 := n14_; have NB633_632 := n15_; clear n0_ n1_ n2_ n3_ n4_ n5_ n6_ n7_ n8_ n9_ n10_ n11_ n12_ n13_ n14_ n15_; clear hb hbox hg; have hnb106 := NB632_621.out; have hnc106 := NB621_632.out; have hnb107 := NB632_622.out; have hnc107 := NB622_632.out; have hnb108 := NB632_623.out; have hnc108 := NB623_632.out; have hnb109 := NB632_633.out; have hnc109 := NB633_632.out; have hcz110_0 : w105.cell? ⟨gb632, 0, none⟩ = some (.int .i64 0) := (blk_cell BK632.out 0).trans rfl; have hcz110_1 : w105.cell? ⟨gb632, 1, none⟩ = some (.int .i64 0) := (blk_cell BK632.out 1).trans rfl; have hcz110_2 : w105.cell? ⟨gb632, 2, none⟩ = some (.int .i64 0) := (blk_cell BK632.out 2).trans rfl; have hfz110_0 := blk_frozen BK632.out 0; have hfz110_1 := blk_frozen BK632.out 1; have hfz110_2 := blk_frozen BK632.out 2; have hnb111 := NB633_621.out; have hnc111 := NB621_633.out; have hnb112 := NB633_622.out; have hnc112 := NB622_633.out; have hnb113 := NB633_623.out; have hnc113 := NB623_633.out; have hcz114_0 : w105.cell? ⟨gb633, 0, none⟩ = some (.int .i64 0) := (blk_cell BK633.out 0).trans rfl; have hcz114_1 : w105.cell? ⟨gb633, 1, none⟩ = some (.int .i64 0) := (blk_cell BK633.out 1).trans rfl; have hcz114_2 : w105.cell? ⟨gb633, 2, none⟩ = some (.int .i64 0) := (blk_cell BK633.out 2).trans rfl; have hfz114_0 := blk_frozen BK633.out 0; have hfz114_1 := blk_frozen BK633.out 1; have hfz114_2 := blk_frozen BK633.out 2) | ((with_reducible refine gate_callee (f := 73) rfl ?_); refine goesL_ (some 38) rfl rfl Try.func73 (by kernel_rfl) rfl #[.int .i64 a0, .int .i64 t624] rfl (by (try simp only [List.map_toArray, List.map_cons, List.map_nil]); first | done | rfl | (simp only [List.length_drop, List.length_take]; rfl)) ?_; (with_reducible refine (impl_firstChild.calls a0 t624 t634 _ A18.out).mono ?_); rintro e w' ⟨rfl, ⟨nd, rfl⟩⟩; refine ⟨_, rfl, ?_⟩) | ((with_reducible refine gate_callee (f := 114) rfl ?_); refine goesL_ (some 56) rfl rfl Try.func114 (by kernel_rfl) rfl #[.int .i64 a0, .agg #[.int .i64 t625, .int .i64 t626, .int .i64 t627], .int .i64 (wrap64 (a2 - t634))] rfl (by (try simp only [List.map_toArray, List.map_cons, List.map_nil]); first | done | rfl | (simp only [List.length_drop, List.length_take]; rfl)) ?_; (with_reducible refine (impl_neighbour.calls k a0 t625 t626 t627 (wrap64 (a2 - t634)) t646 t647 t648 t649 _ A96.out).mono ?_); rintro e w115 ⟨rfl, hb⟩; refine ⟨_, rfl, ?_⟩; have n0_ := Aside0.mk (blk_below (g := gb621) (o := .cells #[.int .i64 a1_0, .int .i64 a1_1, .int .i64 a1_2] 34 (0, 0)) (by (with_reducible repeat (first | refine blk_drewN ?_ _ | refine blk_drew ?_ | refine blk_alloc ?_ _)); refine blk_far ?_ NB621_633.out _; (with_reducible repeat (first | refine blk_drewN ?_ _ | refine blk_drew ?_ | refine blk_alloc ?_ _)); refine blk_far ?_ NB621_633.out _; (with_reducible repeat (first | refine blk_drewN ?_ _ | refine blk_drew ?_ | refine blk_alloc ?_ _)); refine blk_far ?_ NB621_633.out _; (with_reducible repeat (first | refine blk_drewN ?_ _ | refine blk_drew ?_ | refine blk_alloc ?_ _)); refine blk_far ?_ NB621_632.out _; (with_reducible repeat (first | refine blk_drewN ?_ _ | refine blk_drew ?_ | refine blk_alloc ?_ _)); refine blk_far ?_ NB621_632.out _; (with_reducible repeat (first | refine blk_drewN ?_ _ | refine blk_drew ?_ | refine blk_alloc ?_ _)); refine blk_far ?_ NB621_632.out _; (with_reducible repeat (first | refine blk_drewN ?_ _ | refine blk_drew ?_ | refine blk_alloc ?_ _)); exact BK621.out) hb); have n1_ := Aside0.mk (blk_below (g := gb622) (o := .cells #[.int .i64 0, .int .i64 0, .int .i64 0] 34 (0, 0)) (by (with_reducible repeat (first | refine blk_drewN ?_ _ | refine blk_drew ?_ | refine blk_alloc ?_ _)); refine blk_far ?_ NB622_633.out _; (with_reducible repeat (first | refine blk_drewN ?_ _ | refine blk_drew ?_ | refine blk_alloc ?_ _)); refine blk_far ?_ NB622_633.out _; (with_reducible repeat (first | refine blk_drewN ?_ _ | refine blk_drew ?_ | refine blk_alloc ?_ _)); refine blk_far ?_ NB622_633.out _; (with_reducible repeat (first | refine blk_drewN ?_ _ | refine blk_drew ?_ | refine blk_alloc ?_ _)); refine blk_far ?_ NB622_632.out _; (with_reducible repeat (first | refine blk_drewN ?_ _ | refine blk_drew ?_ | refine blk_alloc ?_ _)); refine blk_far ?_ NB622_632.out _; (with_reducible repeat (first | refine blk_drewN ?_ _ | refine blk_drew ?_ | refine blk_alloc ?_ _)); refine blk_far ?_ NB622_632.out _; (with_reducible repeat (first | refine blk_drewN ?_ _ | refine blk_drew ?_ | refine blk_alloc ?_ _)); exact BK622.out) hb); have n2_ := Aside0.mk (blk_below (g := gb623) (o := .cells #[.int .i64 0, .int .i64 0, .int .i64 0] 34 (0, 0)) (by (with_reducible repeat (first | refine blk_drewN ?_ _ | refine blk_drew ?_ | refine blk_alloc ?_ _)); refine blk_far ?_ NB623_633.out _; (with_reducible repeat (first | refine blk_drewN ?_ _ | refine blk_drew ?_ | refine blk_alloc ?_ _)); refine blk_far ?_ NB623_633.out _; (with_reducible repeat (first | refine blk_drewN ?_ _ | refine blk_drew ?_ | refine blk_alloc ?_ _)); refine blk_far ?_ NB623_633.out _; (with_reducible repeat (first | refine blk_drewN ?_ _ | refine blk_drew ?_ | refine blk_alloc ?_ _)); refine blk_far ?_ NB623_632.out _; (with_reducible repeat (first | refine blk_drewN ?_ _ | refine blk_drew ?_ | refine blk_alloc ?_ _)); refine blk_far ?_ NB623_632.out _; (with_reducible repeat (first | refine blk_drewN ?_ _ | refine blk_drew ?_ | refine blk_alloc ?_ _)); refine blk_far ?_ NB623_632.out _; (with_reducible repeat (first | refine blk_drewN ?_ _ | refine blk_drew ?_ | refine blk_alloc ?_ _)); exact BK623.out) hb); have n3_ := Aside0.mk (blk_below (g := gb632) (o := .cells #[.int .i64 t625, .int .i64 t626, .int .i64 t627] 34 (0, 0)) (by (with_reducible repeat (first | refine blk_drewN ?_ _ | refine blk_drew ?_ | refine blk_alloc ?_ _)); refine blk_far ?_ NB632_633.out _; (with_reducible repeat (first | refine blk_drewN ?_ _ | refine blk_drew ?_ | refine blk_alloc ?_ _)); refine blk_far ?_ NB632_633.out _; (with_reducible repeat (first | refine blk_drewN ?_ _ | refine blk_drew ?_ | refine blk_alloc ?_ _)); refine blk_far ?_ NB632_633.out _; (with_reducible repeat (first | refine blk_drewN ?_ _ | refine blk_drew ?_ | refine blk_alloc ?_ _)); refine blk_put (cs := #[.int .i64 t625, .int .i64 t626, .int .i64 0]) ?_ 2 _ rfl; (with_reducible repeat (first | refine blk_drewN ?_ _ | refine blk_drew ?_ | refine blk_alloc ?_ _)); refine blk_put (cs := #[.int .i64 t625, .int .i64 0, .int .i64 0]) ?_ 1 _ rfl; (with_reducible repeat (first | refine blk_drewN ?_ _ | refine blk_drew ?_ | refine blk_alloc ?_ _)); refine blk_put (cs := #[.int .i64 0, .int .i64 0, .int .i64 0]) ?_ 0 _ rfl; (with_reducible repeat (first | refine blk_drewN ?_ _ | refine blk_drew ?_ | refine blk_alloc ?_ _)); exact BK632.out) hb); have n4_ := Aside0.mk (blk_below (g := gb633) (o := .cells #[.int .i64 t628, .int .i64 t629, .int .i64 t630] 34 (0, 0)) (by (with_reducible repeat (first | refine blk_drewN ?_ _ | refine blk_drew ?_ | refine blk_alloc ?_ _)); refine blk_put (cs := #[.int .i64 t628, .int .i64 t629, .int .i64 0]) ?_ 2 _ rfl; (with_reducible repeat (first | refine blk_drewN ?_ _ | refine blk_drew ?_ | refine blk_alloc ?_ _)); refine blk_put (cs := #[.int .i64 t628, .int .i64 0, .int .i64 0]) ?_ 1 _ rfl; (with_reducible repeat (first | refine blk_drewN ?_ _ | refine blk_drew ?_ | refine blk_alloc ?_ _)); refine blk_put (cs := #[.int .i64 0, .int .i64 0, .int .i64 0]) ?_ 0 _ rfl; (with_reducible repeat (first | refine blk_drewN ?_ _ | refine blk_drew ?_ | refine blk_alloc ?_ _)); refine blk_far ?_ NB633_632.out _; (with_reducible repeat (first | refine blk_drewN ?_ _ | refine blk_drew ?_ | refine blk_alloc ?_ _)); refine blk_far ?_ NB633_632.out _; (with_reducible repeat (first | refine blk_drewN ?_ _ | refine blk_drew ?_ | refine blk_alloc ?_ _)); refine blk_far ?_ NB633_632.out _; (with_reducible repeat (first | refine blk_drewN ?_ _ | refine blk_drew ?_ | refine blk_alloc ?_ _)); exact BK633.out) hb); have n5_ := Aside0.mk (below_step blA hb); clear BK621; clear BK622; clear BK623; clear BK632; clear BK633; clear HB; have BK621 := n0_; have BK622 := n1_; have BK623 := n2_; have BK632 := n3_; have BK633 := n4_; have HB := n5_; clear n0_ n1_ n2_ n3_ n4_ n5_; (try clear hb); (try clear hb2); (try clear hk); (try clear hi)) | ((with_reducible refine gate_dst (N := 14) rfl ?_); refine box_event ?hg (N := 14) ?hd (cs := #[.int .i64 0, .int .i64 0, .int .i64 0]) (t := 34) ?hr ?_; (case hd => rfl); (case hg => rfl); (case hr => first | (go_simp; done) | (go_simp; rfl)); intro gb650 hg w116 hbox hb; have n0_ := Aside0.mk (blk_below (bkA BK621) hb); have n1_ := Aside0.mk (blk_below (bkA BK622) hb); have n2_ := Aside0.mk (blk_below (bkA BK623) hb); have n3_ := Aside0.mk (blk_below (bkA BK632) hb); have n4_ := Aside0.mk (blk_below (bkA BK633) hb); have n5_ := Aside0.mk (below_step blA hb); have n6_ := Aside0.mk (hbox); have n7_ := Aside0.mk (szA hg blA); have n8_ := Aside0.mk (szA hg blA); have n9_ := Aside0.mk (neA hg (bkA BK621)); have n10_ := Aside0.mk (neB hg (bkA BK621)); have n11_ := Aside0.mk (neA hg (bkA BK622)); have n12_ := Aside0.mk (neB hg (bkA BK622)); have n13_ := Aside0.mk (neA hg (bkA BK623)); have n14_ := Aside0.mk (neB hg (bkA BK623)); have n15_ := Aside0.mk (neA hg (bkA BK632)); have n16_ := Aside0.mk (neB hg (bkA BK632)); have n17_ := Aside0.mk (neA hg (bkA BK633)); have n18_ := Aside0.mk (neB hg (bkA BK633)); clear BK621; clear BK622; clear BK623; clear BK632; clear BK633; clear HB; have BK621 := n0_; have BK622 := n1_; have BK623 := n2_; have BK632 := n3_; have BK633 := n4_; have HB := n5_; have BK650 := n6_; have GW650 := n7_; have GE650 := n8_; have NB621_650 := n9_; have NB650_621 := n10_; have NB622_650 := n11_; have NB650_622 := n12_; have NB623_650 := n13_; have NB650_623 := n14_; have NB632_650 := n15_; have NB650_632 := n16_; have NB633_650 := n17_; have NB650_633 := n18_; clear n0_ n1_ n2_ n3_ n4_ n5_ n6_ n7_ n8_ n9_ n10_ n11_ n12_ n13_ n14_ n15_ n16_ n17_ n18_; clear hb hbox hg; have hnb117 := NB650_621.out; have hnc117 := NB621_650.out; have hnb118 := NB650_622.out; have hnc118 := NB622_650.out; have hnb119 := NB650_623.out; have hnc119 := NB623_650.out; have hnb120 := NB650_632.out; have hnc120 := NB632_650.out; have hnb121 := NB650_633.out; have hnc121 := NB633_650.out; have hcz122_0 : w116.cell? ⟨gb650, 0, none⟩ = some (.int .i64 0) := (blk_cell BK650.out 0).trans rfl; have hcz122_1 : w116.cell? ⟨gb650, 1, none⟩ = some (.int .i64 0) := (blk_cell BK650.out 1).trans rfl; have hcz122_2 : w116.cell? ⟨gb650, 2, none⟩ = some (.int .i64 0) := (blk_cell BK650.out 2).trans rfl; have hfz122_0 := blk_frozen BK650.out 0; have hfz122_1 := blk_frozen BK650.out 1; have hfz122_2 := blk_frozen BK650.out 2))
  have n0_ : Aside0 ((((w116.setCell ⟨gb650, 0, none⟩ (.int .i64 t646)).setCell ⟨gb650, 1, none⟩ (.int .i64 t647)).setCell ⟨gb650, 2, none⟩ (.int .i64 t648)).heap[gb621]? = some (.cells #[.int .i64 a1_0, .int .i64 a1_1, .int .i64 a1_2] 34 (0, 0))) := ⟨by (with_reducible repeat (first | refine blk_drewN ?_ _ | refine blk_drew ?_ | refine blk_alloc ?_ _)); refine blk_far ?_ NB621_650.out _; (with_reducible repeat (first | refine blk_drewN ?_ _ | refine blk_drew ?_ | refine blk_alloc ?_ _)); refine blk_far ?_ NB621_650.out _; (with_reducible repeat (first | refine blk_drewN ?_ _ | refine blk_drew ?_ | refine blk_alloc ?_ _)); refine blk_far ?_ NB621_650.out _; (with_reducible repeat (first | refine blk_drewN ?_ _ | refine blk_drew ?_ | refine blk_alloc ?_ _)); exact BK621.out⟩
  have n1_ : Aside0 ((((w116.setCell ⟨gb650, 0, none⟩ (.int .i64 t646)).setCell ⟨gb650, 1, none⟩ (.int .i64 t647)).setCell ⟨gb650, 2, none⟩ (.int .i64 t648)).heap[gb622]? = some (.cells #[.int .i64 0, .int .i64 0, .int .i64 0] 34 (0, 0))) := ⟨by (with_reducible repeat (first | refine blk_drewN ?_ _ | refine blk_drew ?_ | refine blk_alloc ?_ _)); refine blk_far ?_ NB622_650.out _; (with_reducible repeat (first | refine blk_drewN ?_ _ | refine blk_drew ?_ | refine blk_alloc ?_ _)); refine blk_far ?_ NB622_650.out _; (with_reducible repeat (first | refine blk_drewN ?_ _ | refine blk_drew ?_ | refine blk_alloc ?_ _)); refine blk_far ?_ NB622_650.out _; (with_reducible repeat (first | refine blk_drewN ?_ _ | refine blk_drew ?_ | refine blk_alloc ?_ _)); exact BK622.out⟩
  have n2_ : Aside0 ((((w116.setCell ⟨gb650, 0, none⟩ (.int .i64 t646)).setCell ⟨gb650, 1, none⟩ (.int .i64 t647)).setCell ⟨gb650, 2, none⟩ (.int .i64 t648)).heap[gb623]? = some (.cells #[.int .i64 0, .int .i64 0, .int .i64 0] 34 (0, 0))) := ⟨by (with_reducible repeat (first | refine blk_drewN ?_ _ | refine blk_drew ?_ | refine blk_alloc ?_ _)); refine blk_far ?_ NB623_650.out _; (with_reducible repeat (first | refine blk_drewN ?_ _ | refine blk_drew ?_ | refine blk_alloc ?_ _)); refine blk_far ?_ NB623_650.out _; (with_reducible repeat (first | refine blk_drewN ?_ _ | refine blk_drew ?_ | refine blk_alloc ?_ _)); refine blk_far ?_ NB623_650.out _; (with_reducible repeat (first | refine blk_drewN ?_ _ | refine blk_drew ?_ | refine blk_alloc ?_ _)); exact BK623.out⟩
  have n3_ : Aside0 ((((w116.setCell ⟨gb650, 0, none⟩ (.int .i64 t646)).setCell ⟨gb650, 1, none⟩ (.int .i64 t647)).setCell ⟨gb650, 2, none⟩ (.int .i64 t648)).heap[gb632]? = some (.cells #[.int .i64 t625, .int .i64 t626, .int .i64 t627] 34 (0, 0))) := ⟨by (with_reducible repeat (first | refine blk_drewN ?_ _ | refine blk_drew ?_ | refine blk_alloc ?_ _)); refine blk_far ?_ NB632_650.out _; (with_reducible repeat (first | refine blk_drewN ?_ _ | refine blk_drew ?_ | refine blk_alloc ?_ _)); refine blk_far ?_ NB632_650.out _; (with_reducible repeat (first | refine blk_drewN ?_ _ | refine blk_drew ?_ | refine blk_alloc ?_ _)); refine blk_far ?_ NB632_650.out _; (with_reducible repeat (first | refine blk_drewN ?_ _ | refine blk_drew ?_ | refine blk_alloc ?_ _)); exact BK632.out⟩
  have n4_ : Aside0 ((((w116.setCell ⟨gb650, 0, none⟩ (.int .i64 t646)).setCell ⟨gb650, 1, none⟩ (.int .i64 t647)).setCell ⟨gb650, 2, none⟩ (.int .i64 t648)).heap[gb633]? = some (.cells #[.int .i64 t628, .int .i64 t629, .int .i64 t630] 34 (0, 0))) := ⟨by (with_reducible repeat (first | refine blk_drewN ?_ _ | refine blk_drew ?_ | refine blk_alloc ?_ _)); refine blk_far ?_ NB633_650.out _; (with_reducible repeat (first | refine blk_drewN ?_ _ | refine blk_drew ?_ | refine blk_alloc ?_ _)); refine blk_far ?_ NB633_650.out _; (with_reducible repeat (first | refine blk_drewN ?_ _ | refine blk_drew ?_ | refine blk_alloc ?_ _)); refine blk_far ?_ NB633_650.out _; (with_reducible repeat (first | refine blk_drewN ?_ _ | refine blk_drew ?_ | refine blk_alloc ?_ _)); exact BK633.out⟩
  have n5_ : Aside0 ((((w116.setCell ⟨gb650, 0, none⟩ (.int .i64 t646)).setCell ⟨gb650, 1, none⟩ (.int .i64 t647)).setCell ⟨gb650, 2, none⟩ (.int .i64 t648)).heap[gb650]? = some (.cells #[.int .i64 t646, .int .i64 t647, .int .i64 t648] 34 (0, 0))) := ⟨by (with_reducible repeat (first | refine blk_drewN ?_ _ | refine blk_drew ?_ | refine blk_alloc ?_ _)); refine blk_put (cs := #[.int .i64 t646, .int .i64 t647, .int .i64 0]) ?_ 2 _ rfl; (with_reducible repeat (first | refine blk_drewN ?_ _ | refine blk_drew ?_ | refine blk_alloc ?_ _)); refine blk_put (cs := #[.int .i64 t646, .int .i64 0, .int .i64 0]) ?_ 1 _ rfl; (with_reducible repeat (first | refine blk_drewN ?_ _ | refine blk_drew ?_ | refine blk_alloc ?_ _)); refine blk_put (cs := #[.int .i64 0, .int .i64 0, .int .i64 0]) ?_ 0 _ rfl; (with_reducible repeat (first | refine blk_drewN ?_ _ | refine blk_drew ?_ | refine blk_alloc ?_ _)); exact BK650.out⟩
  have n6_ : Aside0 (Below w.heap.size w (((w116.setCell ⟨gb650, 0, none⟩ (.int .i64 t646)).setCell ⟨gb650, 1, none⟩ (.int .i64 t647)).setCell ⟨gb650, 2, none⟩ (.int .i64 t648))) := ⟨blA⟩
  (try clear BK621)
  (try clear BK622)
  (try clear BK623)
  (try clear BK632)
  (try clear BK633)
  (try clear BK650)
  (try clear HB)
  generalize (((w116.setCell ⟨gb650, 0, none⟩ (.int .i64 t646)).setCell ⟨gb650, 1, none⟩ (.int .i64 t647)).setCell ⟨gb650, 2, none⟩ (.int .i64 t648)) = w123 at n0_ n1_ n2_ n3_ n4_ n5_ n6_ ⊢
  have BK621 := n0_
  have BK622 := n1_
  have BK623 := n2_
  have BK632 := n3_
  have BK633 := n4_
  have BK650 := n5_
  have HB := n6_
  clear n0_ n1_ n2_ n3_ n4_ n5_ n6_
  have n0_ := Aside0.mk (blk_drew BK621.out)
  have n1_ := Aside0.mk (blk_drew BK622.out)
  have n2_ := Aside0.mk (blk_drew BK623.out)
  have n3_ := Aside0.mk (blk_drew BK632.out)
  have n4_ := Aside0.mk (blk_drew BK633.out)
  have n5_ := Aside0.mk (blk_drew BK650.out)
  have n6_ := Aside0.mk (below_drew1 HB.out)
  clear BK621
  clear BK622
  clear BK623
  clear BK632
  clear BK633
  clear BK650
  clear HB
  have BK621 := n0_
  have BK622 := n1_
  have BK623 := n2_
  have BK632 := n3_
  have BK633 := n4_
  have BK650 := n5_
  have HB := n6_
  clear n0_ n1_ n2_ n3_ n4_ n5_ n6_
  refine start_ (n := 6) (S := fun w' => w'.cell? ⟨gb650, 0, none⟩ = some (.int .i64 t646) ∧ w'.cell? ⟨gb650, 1, none⟩ = some (.int .i64 t647) ∧ w'.cell? ⟨gb650, 2, none⟩ = some (.int .i64 t648) ∧ w'.cell? ⟨gb632, 0, none⟩ = some (.int .i64 t625) ∧ w'.cell? ⟨gb632, 1, none⟩ = some (.int .i64 t626) ∧ w'.cell? ⟨gb632, 2, none⟩ = some (.int .i64 t627)) (ds := []) #[false, false, false, false, false, false] (by kernel_rfl) rfl rfl ⟨(blk_cell BK650.out 0).trans rfl, (blk_cell BK650.out 1).trans rfl, (blk_cell BK650.out 2).trans rfl, (blk_cell BK632.out 0).trans rfl, (blk_cell BK632.out 1).trans rfl, (blk_cell BK632.out 2).trans rfl⟩ (fun hHeld => ?_)
  generalize w123.drew = w124 at BK621 BK622 BK623 BK632 BK633 BK650 HB hHeld ⊢
  refine pure_ (i := 2) (N := some 61) (v := ?_) (a' := ?_) #[false, false, true, false, false, false] rfl rfl (by kernel_rfl) (fun _ _ _ h => h) (Or.inl ⟨by rfl, ?_⟩) ?_ ?_
  rotate_left
  · intro w'
    go_simp
    with_reducible rfl
  rotate_left
  · simp only [Act.put, List.setIfInBounds_toArray, List.set_cons_zero, List.set_cons_succ, i64_w, i32_w]
    rfl
  refine take_ (i := 0) (N := some 59) (v := ?_) (a' := ?_) #[true, false, true, false, false, false] rfl rfl (by kernel_rfl) (fun _ _ _ h => h) (Or.inl ⟨by rfl, ?_⟩) hHeld ?_ ?_
  rotate_left
  · rintro w' ⟨s0, s1, s2, s3, s4, s5⟩
    go_simp
    with_reducible rfl
  rotate_left
  · simp only [Act.put, List.setIfInBounds_toArray, List.set_cons_zero, List.set_cons_succ, i64_w, i32_w]
    rfl
  refine take_ (i := 1) (N := some 60) (v := ?_) (a' := ?_) #[true, true, true, false, false, false] rfl rfl (by kernel_rfl) (fun _ _ _ h => h) (Or.inl ⟨by rfl, ?_⟩) hHeld ?_ ?_
  rotate_left
  · rintro w' ⟨s0, s1, s2, s3, s4, s5⟩
    go_simp
    with_reducible rfl
  rotate_left
  · simp only [Act.put, List.setIfInBounds_toArray, List.set_cons_zero, List.set_cons_succ, i64_w, i32_w]
    rfl
  refine one_ (i := 3) (N := none) #[true, true, true, true, false, false] rfl rfl (by kernel_rfl) (by decide) (fun K hK => ?_)
  have hs125 : w124.cell? ⟨gb622, 0, none⟩ = some (.int .i64 0) := (blk_cell BK622.out 0).trans rfl
  have hfs125 := blk_frozen BK622.out 0
  have hns125_0 := NB621_622.out
  have hns125_2 := NB623_622.out
  have hns125_3 := NB632_622.out
  have hns125_4 := NB633_622.out
  have hns125_5 := NB650_622.out
  have hms125_0 := NB622_621.out
  have hms125_2 := NB622_623.out
  have hms125_3 := NB622_632.out
  have hms125_4 := NB622_633.out
  have hms125_5 := NB622_650.out
  have hs126 : w124.cell? ⟨gb622, 1, none⟩ = some (.int .i64 0) := (blk_cell BK622.out 1).trans rfl
  have hfs126 := blk_frozen BK622.out 1
  have hns126_0 := NB621_622.out
  have hns126_2 := NB623_622.out
  have hns126_3 := NB632_622.out
  have hns126_4 := NB633_622.out
  have hns126_5 := NB650_622.out
  have hms126_0 := NB622_621.out
  have hms126_2 := NB622_623.out
  have hms126_3 := NB622_632.out
  have hms126_4 := NB622_633.out
  have hms126_5 := NB622_650.out
  have hs127 : w124.cell? ⟨gb622, 2, none⟩ = some (.int .i64 0) := (blk_cell BK622.out 2).trans rfl
  have hfs127 := blk_frozen BK622.out 2
  have hns127_0 := NB621_622.out
  have hns127_2 := NB623_622.out
  have hns127_3 := NB632_622.out
  have hns127_4 := NB633_622.out
  have hns127_5 := NB650_622.out
  have hms127_0 := NB622_621.out
  have hms127_2 := NB622_623.out
  have hms127_3 := NB622_632.out
  have hms127_4 := NB622_633.out
  have hms127_5 := NB622_650.out
  refine skip_ (w1 := ?_) (by rfl) rfl ?_ ?_
  rotate_left
  · go_simp
    rfl
  refine hK.out _ _ ⟨((cell_far (p := ⟨gb622, _, none⟩) NB650_622.out _).trans (((cell_far (p := ⟨gb622, _, none⟩) NB650_622.out _).trans (((cell_far (p := ⟨gb622, _, none⟩) NB650_622.out _).trans (hHeld.1)))))), ((cell_far (p := ⟨gb622, _, none⟩) NB650_622.out _).trans (((cell_far (p := ⟨gb622, _, none⟩) NB650_622.out _).trans (((cell_far (p := ⟨gb622, _, none⟩) NB650_622.out _).trans (hHeld.2.1)))))), ((cell_far (p := ⟨gb622, _, none⟩) NB650_622.out _).trans (((cell_far (p := ⟨gb622, _, none⟩) NB650_622.out _).trans (((cell_far (p := ⟨gb622, _, none⟩) NB650_622.out _).trans (hHeld.2.2.1)))))), ((cell_far (p := ⟨gb622, _, none⟩) NB632_622.out _).trans (((cell_far (p := ⟨gb622, _, none⟩) NB632_622.out _).trans (((cell_far (p := ⟨gb622, _, none⟩) NB632_622.out _).trans (hHeld.2.2.2.1)))))), ((cell_far (p := ⟨gb622, _, none⟩) NB632_622.out _).trans (((cell_far (p := ⟨gb622, _, none⟩) NB632_622.out _).trans (((cell_far (p := ⟨gb622, _, none⟩) NB632_622.out _).trans (hHeld.2.2.2.2.1)))))), ((cell_far (p := ⟨gb622, _, none⟩) NB632_622.out _).trans (((cell_far (p := ⟨gb622, _, none⟩) NB632_622.out _).trans (((cell_far (p := ⟨gb622, _, none⟩) NB632_622.out _).trans (hHeld.2.2.2.2.2))))))⟩ (fun hHeld => ?_)
  clear hK K
  refine one_ (i := 4) (N := none) #[true, true, true, true, true, false] rfl rfl (by kernel_rfl) (by decide) (fun K hK => ?_)
  have hs128 : w124.cell? ⟨gb623, 0, none⟩ = some (.int .i64 0) := (blk_cell BK623.out 0).trans rfl
  have hfs128 := blk_frozen BK623.out 0
  have hns128_0 := NB621_623.out
  have hns128_1 := NB622_623.out
  have hns128_3 := NB632_623.out
  have hns128_4 := NB633_623.out
  have hns128_5 := NB650_623.out
  have hms128_0 := NB623_621.out
  have hms128_1 := NB623_622.out
  have hms128_3 := NB623_632.out
  have hms128_4 := NB623_633.out
  have hms128_5 := NB623_650.out
  have hs129 : w124.cell? ⟨gb623, 1, none⟩ = some (.int .i64 0) := (blk_cell BK623.out 1).trans rfl
  have hfs129 := blk_frozen BK623.out 1
  have hns129_0 := NB621_623.out
  have hns129_1 := NB622_623.out
  have hns129_3 := NB632_623.out
  have hns129_4 := NB633_623.out
  have hns129_5 := NB650_623.out
  have hms129_0 := NB623_621.out
  have hms129_1 := NB623_622.out
  have hms129_3 := NB623_632.out
  have hms129_4 := NB623_633.out
  have hms129_5 := NB623_650.out
  have hs130 : w124.cell? ⟨gb623, 2, none⟩ = some (.int .i64 0) := (blk_cell BK623.out 2).trans rfl
  have hfs130 := blk_frozen BK623.out 2
  have hns130_0 := NB621_623.out
  have hns130_1 := NB622_623.out
  have hns130_3 := NB632_623.out
  have hns130_4 := NB633_623.out
  have hns130_5 := NB650_623.out
  have hms130_0 := NB623_621.out
  have hms130_1 := NB623_622.out
  have hms130_3 := NB623_632.out
  have hms130_4 := NB623_633.out
  have hms130_5 := NB623_650.out
  refine skip_ (w1 := ?_) (by rfl) rfl ?_ ?_
  rotate_left
  · go_simp
    rfl
  refine hK.out _ _ ⟨((cell_far (p := ⟨gb623, _, none⟩) NB650_623.out _).trans (((cell_far (p := ⟨gb623, _, none⟩) NB650_623.out _).trans (((cell_far (p := ⟨gb623, _, none⟩) NB650_623.out _).trans (hHeld.1)))))), ((cell_far (p := ⟨gb623, _, none⟩) NB650_623.out _).trans (((cell_far (p := ⟨gb623, _, none⟩) NB650_623.out _).trans (((cell_far (p := ⟨gb623, _, none⟩) NB650_623.out _).trans (hHeld.2.1)))))), ((cell_far (p := ⟨gb623, _, none⟩) NB650_623.out _).trans (((cell_far (p := ⟨gb623, _, none⟩) NB650_623.out _).trans (((cell_far (p := ⟨gb623, _, none⟩) NB650_623.out _).trans (hHeld.2.2.1)))))), ((cell_far (p := ⟨gb623, _, none⟩) NB632_623.out _).trans (((cell_far (p := ⟨gb623, _, none⟩) NB632_623.out _).trans (((cell_far (p := ⟨gb623, _, none⟩) NB632_623.out _).trans (hHeld.2.2.2.1)))))), ((cell_far (p := ⟨gb623, _, none⟩) NB632_623.out _).trans (((cell_far (p := ⟨gb623, _, none⟩) NB632_623.out _).trans (((cell_far (p := ⟨gb623, _, none⟩) NB632_623.out _).trans (hHeld.2.2.2.2.1)))))), ((cell_far (p := ⟨gb623, _, none⟩) NB632_623.out _).trans (((cell_far (p := ⟨gb623, _, none⟩) NB632_623.out _).trans (((cell_far (p := ⟨gb623, _, none⟩) NB632_623.out _).trans (hHeld.2.2.2.2.2))))))⟩ (fun hHeld => ?_)
  clear hK K
  refine pure_ (i := 5) (N := some 8) (v := ?_) (a' := ?_) #[true, true, true, true, true, true] rfl rfl (by kernel_rfl) (fun _ _ _ h => h) (Or.inl ⟨by rfl, ?_⟩) ?_ ?_
  rotate_left
  · intro w'
    go_simp
    with_reducible rfl
  rotate_left
  · simp only [Act.put, List.setIfInBounds_toArray, List.set_cons_zero, List.set_cons_succ, i64_w, i32_w]
    rfl
  refine done_ (by kernel_rfl) ?_
  try go_wp2
  refine bodyPost_ret (results_list (rs := [.cell 6 34, .cell 7 34, .tmp 8]) rfl (by simp) (.cell gb622 34 #[.int .i64 t646, .int .i64 t647, .int .i64 t648] (0, 0) _ rfl (by (with_reducible repeat (first | refine blk_drewN ?_ _ | refine blk_drew ?_ | refine blk_alloc ?_ _)); refine blk_far ?_ NB622_623.out _; (with_reducible repeat (first | refine blk_drewN ?_ _ | refine blk_drew ?_ | refine blk_alloc ?_ _)); refine blk_far ?_ NB622_623.out _; (with_reducible repeat (first | refine blk_drewN ?_ _ | refine blk_drew ?_ | refine blk_alloc ?_ _)); refine blk_far ?_ NB622_623.out _; (with_reducible repeat (first | refine blk_drewN ?_ _ | refine blk_drew ?_ | refine blk_alloc ?_ _)); refine blk_put (cs := #[.int .i64 t646, .int .i64 t647, .int .i64 0]) ?_ 2 _ rfl; (with_reducible repeat (first | refine blk_drewN ?_ _ | refine blk_drew ?_ | refine blk_alloc ?_ _)); refine blk_put (cs := #[.int .i64 t646, .int .i64 0, .int .i64 0]) ?_ 1 _ rfl; (with_reducible repeat (first | refine blk_drewN ?_ _ | refine blk_drew ?_ | refine blk_alloc ?_ _)); refine blk_put (cs := #[.int .i64 0, .int .i64 0, .int .i64 0]) ?_ 0 _ rfl; (with_reducible repeat (first | refine blk_drewN ?_ _ | refine blk_drew ?_ | refine blk_alloc ?_ _)); exact BK622.out) Try.underlying34 rfl (by kernel_rfl) (.cell gb623 34 #[.int .i64 t625, .int .i64 t626, .int .i64 t627] (0, 0) _ rfl (by (with_reducible repeat (first | refine blk_drewN ?_ _ | refine blk_drew ?_ | refine blk_alloc ?_ _)); refine blk_put (cs := #[.int .i64 t625, .int .i64 t626, .int .i64 0]) ?_ 2 _ rfl; (with_reducible repeat (first | refine blk_drewN ?_ _ | refine blk_drew ?_ | refine blk_alloc ?_ _)); refine blk_put (cs := #[.int .i64 t625, .int .i64 0, .int .i64 0]) ?_ 1 _ rfl; (with_reducible repeat (first | refine blk_drewN ?_ _ | refine blk_drew ?_ | refine blk_alloc ?_ _)); refine blk_put (cs := #[.int .i64 0, .int .i64 0, .int .i64 0]) ?_ 0 _ rfl; (with_reducible repeat (first | refine blk_drewN ?_ _ | refine blk_drew ?_ | refine blk_alloc ?_ _)); refine blk_far ?_ NB623_622.out _; (with_reducible repeat (first | refine blk_drewN ?_ _ | refine blk_drew ?_ | refine blk_alloc ?_ _)); refine blk_far ?_ NB623_622.out _; (with_reducible repeat (first | refine blk_drewN ?_ _ | refine blk_drew ?_ | refine blk_alloc ?_ _)); refine blk_far ?_ NB623_622.out _; (with_reducible repeat (first | refine blk_drewN ?_ _ | refine blk_drew ?_ | refine blk_alloc ?_ _)); exact BK623.out) Try.underlying34 rfl (by kernel_rfl) (.tmp .nil)))) rfl ?_
  exact ⟨by first | rfl | (simp [errW_none, errW_some] <;> rfl) | (simp [*, errW_none, errW_some] <;> rfl), blA⟩
end Go.Proofs.Ytfkglijnbgijbaa.PAll
