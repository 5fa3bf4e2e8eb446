-- turned for this claim out of the kit's print: the same functions, packed anew
import Derived.Test.YtmhajnfdbjnegaaQx
import Derived.Test.YtmhajnfdbjnegaaQimplareMatrices
import Derived.Test.YtmhajnfdbjnegaaQimplmark
import Derived.Test.YtmhajnfdbjnegaaQimplmoveBall
namespace Go.Proofs.Ytmhajnfdbjnegaa.PAll
open Go.RowKit Go.Proofs.YtmhajnfdbjnegaaW.PrintWords Go.Proofs.YtmhajnfdbjnegaaW.PrintLast Go.Proofs.YtmhajnfdbjnegaaW.PrintMore
attribute [local go_sem] Go.Proofs.Ytmhajnfdbjnegaa.Aux.setCell_drewN Go.Proofs.Ytmhajnfdbjnegaa.Aux.isSome_setCell max2_int min2_int max_two min_two max_three min_three max_four min_four   -- for this text's walks alone
set_option linter.unusedVariables false
set_option linter.unusedSimpArgs false
attribute [local go_sem high] eqA55
/-! ### impl_keeps: function 84 -/
def impl_keeps.f (k : Nat) (a0 : Int) (a1_0 : Int) (a1_1 : Int) (a1_2 : Int) (a1_3 : Int) (a2_0 : Int) (a2_1 : Int) (a2_2 : Int) : Option (Bool) := (impl_moveBall.f k a0 a1_0 a1_1 a1_2 a1_3 a2_0 a2_1 a2_2).bind fun bt813 => (if bt813.2.2.2 = true then (some (bt813.1 == a2_0 && (bt813.2.1 == a2_1 && (bt813.2.2.1 == a2_2)))) else (some false))
theorem impl_keeps.mono : ∀ a0 a1 a2 a3 a4 a5 a6 a7 k, LeO (impl_keeps.f k a0 a1 a2 a3 a4 a5 a6 a7) (impl_keeps.f (k + 1) a0 a1 a2 a3 a4 a5 a6 a7) := by
  intro a0 a1 a2 a3 a4 a5 a6 a7 k
  unfold impl_keeps.f
  repeat' first
      | (with_reducible exact impl_moveBall.mono _ _ _ _ _ _ _ _ _)
      | (with_reducible exact LeO.refl _)
      | (with_reducible exact LeO.none _)
      | (with_reducible refine LeO.ite ?_ ?_)
      | (with_reducible refine LeO.bind ?_ (fun _ => ?_))
      | exact impl_moveBall.mono _ _ _ _ _ _ _ _ _
      | exact LeO.none _
      | refine LeO.ite ?_ ?_
      | refine LeO.bind ?_ (fun _ => ?_)
set_option maxHeartbeats 8000000 in
set_option maxRecDepth 100000 in
theorem impl_keeps.calls (k : Nat) (a0 : Int) (a1_0 : Int) (a1_1 : Int) (a1_2 : Int) (a1_3 : Int) (a2_0 : Int) (a2_1 : Int) (a2_2 : Int) (r : Bool) (w : World) (h : impl_keeps.f k a0 a1_0 a1_1 a1_2 a1_3 a2_0 a2_1 a2_2 = some r) :
    Calls Try.prog 84 #[.int .i64 a0, .agg #[.int .i64 a1_0, .int .i64 a1_1, .int .i64 a1_2, .int .i64 a1_3], .agg #[.int .i64 a2_0, .int .i64 a2_1, .int .i64 a2_2]] w fun e w' => e = .returned (.bool r) ∧ Below w.heap.size w w' := by
  have hu25 := Try.underlying25
  have hu55 := Try.underlying55
  have HB := Aside0.mk (Below.refl w.heap.size w)
  have H : ((impl_moveBall.f k a0 a1_0 a1_1 a1_2 a1_3 a2_0 a2_1 a2_2).bind fun bt813 => (if bt813.2.2.2 = true then (some (bt813.1 == a2_0 && (bt813.2.1 == a2_1 && (bt813.2.2.1 == a2_2)))) else (some false))) = some r := h
  clear h
  replace H := Option.bind_eq_some_iff.mp H
  obtain ⟨⟨t813, t814, t815, t816⟩, A40, H⟩ := H
  replace H : (if t816 = true then (some (t813 == a2_0 && (t814 == a2_1 && (t815 == a2_2)))) else (some false)) = some r := H
  have A4 := Aside0.mk A40
  clear A40
  by_cases c5 : t816 = true
  · subst c5
    have H1 : (some (t813 == a2_0 && (t814 == a2_1 && (t815 == a2_2)))) = some r := by rw [if_pos rfl] at H; exact H
    clear H
    have H := H1
    clear H1
    obtain rfl := Option.some.inj H
    go_enter Try.func84, Try.ntmps84
    go_wp2_with (first | ((with_reducible refine gate_dst (N := 4) rfl ?_); refine box_event ?hg (N := 4) ?hd (cs := #[.int .i64 a1_0, .int .i64 a1_1, .int .i64 a1_2, .int .i64 a1_3]) (t := 25) ?hr ?_; (case hd => rfl); (case hg => rfl); (case hr => first | (go_simp; done) | (go_simp; rfl)); intro gb811 hg w6 hbox hb; have n0_ := Aside0.mk (below_step blA hb); have n1_ := Aside0.mk (hbox); have n2_ := Aside0.mk (szA hg blA); have n3_ := Aside0.mk (szA hg blA); clear HB; have HB := n0_; have BK811 := n1_; have GW811 := n2_; have GE811 := n3_; clear n0_ n1_ n2_ n3_; clear hb hbox hg) | ((with_reducible refine gate_dst (N := 5) rfl ?_); refine box_event ?hg (N := 5) ?hd (cs := #[.int .i64 a2_0, .int .i64 a2_1, .int .i64 a2_2]) (t := 55) ?hr ?_; (case hd => rfl); (case hg => rfl); (case hr => first | (go_simp; done) | (go_simp; rfl)); intro gb812 hg w7 hbox hb; have n0_ := Aside0.mk (blk_below (bkA BK811) hb); have n1_ := Aside0.mk (below_step blA hb); have n2_ := Aside0.mk (hbox); have n3_ := Aside0.mk (szA hg blA); have n4_ := Aside0.mk (szA hg blA); have n5_ := Aside0.mk (neA hg (bkA BK811)); have n6_ := Aside0.mk (neB hg (bkA BK811)); clear BK811; clear HB; have BK811 := n0_; have HB := n1_; have BK812 := n2_; have GW812 := n3_; have GE812 := n4_; have NB811_812 := n5_; have NB812_811 := n6_; clear n0_ n1_ n2_ n3_ n4_ n5_ n6_; clear hb hbox hg; have hnb8 := NB811_812.out; have hnc8 := NB812_811.out; have hcz9_0 : w7.cell? ⟨gb811, 0, none⟩ = some (.int .i64 a1_0) := (blk_cell BK811.out 0).trans rfl; have hcz9_1 : w7.cell? ⟨gb811, 1, none⟩ = some (.int .i64 a1_1) := (blk_cell BK811.out 1).trans rfl; have hcz9_2 : w7.cell? ⟨gb811, 2, none⟩ = some (.int .i64 a1_2) := (blk_cell BK811.out 2).trans rfl; have hcz9_3 : w7.cell? ⟨gb811, 3, none⟩ = some (.int .i64 a1_3) := (blk_cell BK811.out 3).trans rfl; have hfz9_0 := blk_frozen BK811.out 0; have hfz9_1 := blk_frozen BK811.out 1; have hfz9_2 := blk_frozen BK811.out 2; have hfz9_3 := blk_frozen BK811.out 3; have hcz10_0 : w7.cell? ⟨gb812, 0, none⟩ = some (.int .i64 a2_0) := (blk_cell BK812.out 0).trans rfl; have hcz10_1 : w7.cell? ⟨gb812, 1, none⟩ = some (.int .i64 a2_1) := (blk_cell BK812.out 1).trans rfl; have hcz10_2 : w7.cell? ⟨gb812, 2, none⟩ = some (.int .i64 a2_2) := (blk_cell BK812.out 2).trans rfl; have hfz10_0 := blk_frozen BK812.out 0; have hfz10_1 := blk_frozen BK812.out 1; have hfz10_2 := blk_frozen BK812.out 2) | ((with_reducible refine gate_callee (f := 80) rfl ?_); refine goesL_ (some 13) rfl rfl Try.func80 (by kernel_rfl) rfl #[.int .i64 a0, .agg #[.int .i64 a1_0, .int .i64 a1_1, .int .i64 a1_2, .int .i64 a1_3], .agg #[.int .i64 a2_0, .int .i64 a2_1, .int .i64 a2_2]] rfl (by (try simp only [List.map_toArray, List.map_cons, List.map_nil]); first | done | rfl | (simp only [List.length_drop, List.length_take]; rfl)) ?_; (with_reducible refine (impl_moveBall.calls k a0 a1_0 a1_1 a1_2 a1_3 a2_0 a2_1 a2_2 t813 t814 t815 true _ A4.out).mono ?_); rintro e w11 ⟨rfl, hb⟩; refine ⟨_, rfl, ?_⟩; have n0_ := Aside0.mk (blk_below (bkA BK811) hb); have n1_ := Aside0.mk (blk_below (bkA BK812) hb); have n2_ := Aside0.mk (below_step blA hb); clear BK811; clear BK812; clear HB; have BK811 := n0_; have BK812 := n1_; have HB := n2_; clear n0_ n1_ n2_; (try clear hb); (try clear hb2); (try clear hk); (try clear hi)) | ((with_reducible refine gate_dst (N := 7) rfl ?_); refine box_event ?hg (N := 7) ?hd (cs := #[.int .i64 0, .int .i64 0, .int .i64 0]) (t := 55) ?hr ?_; (case hd => rfl); (case hg => rfl); (case hr => first | (go_simp; done) | (go_simp; rfl)); intro gb817 hg w12 hbox hb; have n0_ := Aside0.mk (blk_below (bkA BK811) hb); have n1_ := Aside0.mk (blk_below (bkA BK812) hb); have n2_ := Aside0.mk (below_step blA hb); have n3_ := Aside0.mk (hbox); have n4_ := Aside0.mk (szA hg blA); have n5_ := Aside0.mk (szA hg blA); have n6_ := Aside0.mk (neA hg (bkA BK811)); have n7_ := Aside0.mk (neB hg (bkA BK811)); have n8_ := Aside0.mk (neA hg (bkA BK812)); have n9_ := Aside0.mk (neB hg (bkA BK812)); clear BK811; clear BK812; clear HB; have BK811 := n0_; have BK812 := n1_; have HB := n2_; have BK817 := n3_; have GW817 := n4_; have GE817 := n5_; have NB811_817 := n6_; have NB817_811 := n7_; have NB812_817 := n8_; have NB817_812 := n9_; clear n0_ n1_ n2_ n3_ n4_ n5_ n6_ n7_ n8_ n9_; clear hb hbox hg; have hnb13 := NB817_811.out; have hnc13 := NB811_817.out; have hnb14 := NB817_812.out; have hnc14 := NB812_817.out; have hcz15_0 : w12.cell? ⟨gb817, 0, none⟩ = some (.int .i64 0) := (blk_cell BK817.out 0).trans rfl; have hcz15_1 : w12.cell? ⟨gb817, 1, none⟩ = some (.int .i64 0) := (blk_cell BK817.out 1).trans rfl; have hcz15_2 : w12.cell? ⟨gb817, 2, none⟩ = some (.int .i64 0) := (blk_cell BK817.out 2).trans rfl; have hfz15_0 := blk_frozen BK817.out 0; have hfz15_1 := blk_frozen BK817.out 1; have hfz15_2 := blk_frozen BK817.out 2; have hcz16_0 : w12.cell? ⟨gb812, 0, none⟩ = some (.int .i64 a2_0) := (blk_cell BK812.out 0).trans rfl; have hcz16_1 : w12.cell? ⟨gb812, 1, none⟩ = some (.int .i64 a2_1) := (blk_cell BK812.out 1).trans rfl; have hcz16_2 : w12.cell? ⟨gb812, 2, none⟩ = some (.int .i64 a2_2) := (blk_cell BK812.out 2).trans rfl; have hfz16_0 := blk_frozen BK812.out 0; have hfz16_1 := blk_frozen BK812.out 1; have hfz16_2 := blk_frozen BK812.out 2))
    go_ret
    exact ⟨by first | rfl | (simp [errW_none, errW_some] <;> rfl) | (simp [*, errW_none, errW_some] <;> rfl), blA⟩
  · replace c5 := Bool.eq_false_iff.mpr c5
    subst c5
    have H1 : (some false) = some r := by rw [if_neg (show ¬ (false = true) by decide)] at H; exact H
    clear H
    have H := H1
    clear H1
    obtain rfl := Option.some.inj H
    go_enter Try.func84, Try.ntmps84
    go_wp2_with (first | ((with_reducible refine gate_dst (N := 4) rfl ?_); refine box_event ?hg (N := 4) ?hd (cs := #[.int .i64 a1_0, .int .i64 a1_1, .int .i64 a1_2, .int .i64 a1_3]) (t := 25) ?hr ?_; (case hd => rfl); (case hg => rfl); (case hr => first | (go_simp; done) | (go_simp; rfl)); intro gb811 hg w17 hbox hb; have n0_ := Aside0.mk (below_step blA hb); have n1_ := Aside0.mk (hbox); have n2_ := Aside0.mk (szA hg blA); have n3_ := Aside0.mk (szA hg blA); clear HB; have HB := n0_; have BK811 := n1_; have GW811 := n2_; have GE811 := n3_; clear n0_ n1_ n2_ n3_; clear hb hbox hg) | ((with_reducible refine gate_dst (N := 5) rfl ?_); refine box_event ?hg (N := 5) ?hd (cs := #[.int .i64 a2_0, .int .i64 a2_1, .int .i64 a2_2]) (t := 55) ?hr ?_; (case hd => rfl); (case hg => rfl); (case hr => first | (go_simp; done) | (go_simp; rfl)); intro gb812 hg w18 hbox hb; have n0_ := Aside0.mk (blk_below (bkA BK811) hb); have n1_ := Aside0.mk (below_step blA hb); have n2_ := Aside0.mk (hbox); have n3_ := Aside0.mk (szA hg blA); have n4_ := Aside0.mk (szA hg blA); have n5_ := Aside0.mk (neA hg (bkA BK811)); have n6_ := Aside0.mk (neB hg (bkA BK811)); clear BK811; clear HB; have BK811 := n0_; have HB := n1_; have BK812 := n2_; have GW812 := n3_; have GE812 := n4_; have NB811_812 := n5_; have NB812_811 := n6_; clear n0_ n1_ n2_ n3_ n4_ n5_ n6_; clear hb hbox hg; have hnb19 := NB811_812.out; have hnc19 := NB812_811.out; have hcz20_0 : w18.cell? ⟨gb811, 0, none⟩ = some (.int .i64 a1_0) := (blk_cell BK811.out 0).trans rfl; have hcz20_1 : w18.cell? ⟨gb811, 1, none⟩ = some (.int .i64 a1_1) := (blk_cell BK811.out 1).trans rfl; have hcz20_2 : w18.cell? ⟨gb811, 2, none⟩ = some (.int .i64 a1_2) := (blk_cell BK811.out 2).trans rfl; have hcz20_3 : w18.cell? ⟨gb811, 3, none⟩ = some (.int .i64 a1_3) := (blk_cell BK811.out 3).trans rfl; have hfz20_0 := blk_frozen BK811.out 0; have hfz20_1 := blk_frozen BK811.out 1; have hfz20_2 := blk_frozen BK811.out 2; have hfz20_3 := blk_frozen BK811.out 3; have hcz21_0 : w18.cell? ⟨gb812, 0, none⟩ = some (.int .i64 a2_0) := (blk_cell BK812.out 0).trans rfl; have hcz21_1 : w18.cell? ⟨gb812, 1, none⟩ = some (.int .i64 a2_1) := (blk_cell BK812.out 1).trans rfl; have hcz21_2 : w18.cell? ⟨gb812, 2, none⟩ = some (.int .i64 a2_2) := (blk_cell BK812.out 2).trans rfl; have hfz21_0 := blk_frozen BK812.out 0; have hfz21_1 := blk_frozen BK812.out 1; have hfz21_2 := blk_frozen BK812.out 2) | ((with_reducible refine gate_callee (f := 80) rfl ?_); refine goesL_ (some 13) rfl rfl Try.func80 (by kernel_rfl) rfl #[.int .i64 a0, .agg #[.int .i64 a1_0, .int .i64 a1_1, .int .i64 a1_2, .int .i64 a1_3], .agg #[.int .i64 a2_0, .int .i64 a2_1, .int .i64 a2_2]] rfl (by (try simp only [List.map_toArray, List.map_cons, List.map_nil]); first | done | rfl | (simp only [List.length_drop, List.length_take]; rfl)) ?_; (with_reducible refine (impl_moveBall.calls k a0 a1_0 a1_1 a1_2 a1_3 a2_0 a2_1 a2_2 t813 t814 t815 false _ A4.out).mono ?_); rintro e w22 ⟨rfl, hb⟩; refine ⟨_, rfl, ?_⟩; have n0_ := Aside0.mk (blk_below (bkA BK811) hb); have n1_ := Aside0.mk (blk_below (bkA BK812) hb); have n2_ := Aside0.mk (below_step blA hb); clear BK811; clear BK812; clear HB; have BK811 := n0_; have BK812 := n1_; have HB := n2_; clear n0_ n1_ n2_; (try clear hb); (try clear hb2); (try clear hk); (try clear hi)) | ((with_reducible refine gate_dst (N := 7) rfl ?_); refine box_event ?hg (N := 7) ?hd (cs := #[.int .i64 0, .int .i64 0, .int .i64 0]) (t := 55) ?hr ?_; (case hd => rfl); (case hg => rfl); (case hr => first | (go_simp; done) | (go_simp; rfl)); intro gb817 hg w23 hbox hb; have n0_ := Aside0.mk (blk_below (bkA BK811) hb); have n1_ := Aside0.mk (blk_below (bkA BK812) hb); have n2_ := Aside0.mk (below_step blA hb); have n3_ := Aside0.mk (hbox); have n4_ := Aside0.mk (szA hg blA); have n5_ := Aside0.mk (szA hg blA); have n6_ := Aside0.mk (neA hg (bkA BK811)); have n7_ := Aside0.mk (neB hg (bkA BK811)); have n8_ := Aside0.mk (neA hg (bkA BK812)); have n9_ := Aside0.mk (neB hg (bkA BK812)); clear BK811; clear BK812; clear HB; have BK811 := n0_; have BK812 := n1_; have HB := n2_; have BK817 := n3_; have GW817 := n4_; have GE817 := n5_; have NB811_817 := n6_; have NB817_811 := n7_; have NB812_817 := n8_; have NB817_812 := n9_; clear n0_ n1_ n2_ n3_ n4_ n5_ n6_ n7_ n8_ n9_; clear hb hbox hg; have hnb24 := NB817_811.out; have hnc24 := NB811_817.out; have hnb25 := NB817_812.out; have hnc25 := NB812_817.out; have hcz26_0 : w23.cell? ⟨gb817, 0, none⟩ = some (.int .i64 0) := (blk_cell BK817.out 0).trans rfl; have hcz26_1 : w23.cell? ⟨gb817, 1, none⟩ = some (.int .i64 0) := (blk_cell BK817.out 1).trans rfl; have hcz26_2 : w23.cell? ⟨gb817, 2, none⟩ = some (.int .i64 0) := (blk_cell BK817.out 2).trans rfl; have hfz26_0 := blk_frozen BK817.out 0; have hfz26_1 := blk_frozen BK817.out 1; have hfz26_2 := blk_frozen BK817.out 2))
    go_ret
    exact ⟨by first | rfl | (simp [errW_none, errW_some] <;> rfl) | (simp [*, errW_none, errW_some] <;> rfl), blA⟩
/-! ### impl_StabiliserIn: function 47 -/
mutual
def impl_StabiliserIn.j0 : Nat → Int → List (S25) → Bool → Int → Int → Int → Option (List Int × Int)
  | 0, _, _, _, _, _, _ => none
  | k + 1, x0, x1, x11, x819000, x819001, x819002 => if x11 = true then (some (([] : List Int), 1)) else (if (x1.length : Int) > 48 then (some (([] : List Int), 2)) else (impl_StabiliserIn.l0 k x0 (([] : List Int)) x1 (x1.length : Int) 0 x819000 x819001 x819002))
def impl_StabiliserIn.l0 : Nat → Int → List Int → List (S25) → Int → Int → Int → Int → Int → Option (List Int × Int)
  | 0, _, _, _, _, _, _, _, _ => none
  | k + 1, x0, x8, x26, x27, x28, x819000, x819001, x819002 => if x28 < x27 then (if 0 ≤ x28 then (if x28 < (x26.length : Int) then ((impl_keeps.f k x0 ((rd_T25 x26 x28).f0.f0) ((rd_T25 x26 x28).f0.f1) ((rd_T25 x26 x28).f1.f0) ((rd_T25 x26 x28).f1.f1) x819000 x819001 x819002).bind fun t826 => (if t826 = true then (if x8.length < 17592186044416 then (impl_StabiliserIn.l0 k x0 (x8 ++ [x28]) x26 x27 (wrap64 (x28 + 1)) x819000 x819001 x819002) else (none)) else (impl_StabiliserIn.l0 k x0 x8 x26 x27 (wrap64 (x28 + 1)) x819000 x819001 x819002))) else (none)) else (none)) else (some (x8, 0))
end
def impl_StabiliserIn.f (k : Nat) (a0 : Int) (l1 : List (S25)) (a2_0 : Int) (a2_1 : Int) (a2_2 : Int) : Option (List Int × Int) := (impl_IsBall.f k a0 a2_0 a2_1 a2_2).bind fun t819 => (if t819 = true then ((impl_areMatrices.f k l1).bind fun t820 => (impl_StabiliserIn.j0 k a0 l1 (!t820) a2_0 a2_1 a2_2)) else (impl_StabiliserIn.j0 k a0 l1 true a2_0 a2_1 a2_2))
theorem impl_StabiliserIn.mono_l : ∀ k, (∀ y0 y1 y2 y3 y4 y5, LeO (impl_StabiliserIn.j0 k y0 y1 y2 y3 y4 y5) (impl_StabiliserIn.j0 (k + 1) y0 y1 y2 y3 y4 y5)) ∧ (∀ y0 y1 y2 y3 y4 y5 y6 y7, LeO (impl_StabiliserIn.l0 k y0 y1 y2 y3 y4 y5 y6 y7) (impl_StabiliserIn.l0 (k + 1) y0 y1 y2 y3 y4 y5 y6 y7))
  | 0 => ⟨fun _ _ _ _ _ _ r h => by simp [impl_StabiliserIn.j0] at h, fun _ _ _ _ _ _ _ _ r h => by simp [impl_StabiliserIn.l0] at h⟩
  | k + 1 => by
    obtain ⟨ih0, ih1⟩ := impl_StabiliserIn.mono_l k
    refine ⟨?_, ?_⟩
    · intro y0 y1 y2 y3 y4 y5
      unfold impl_StabiliserIn.j0
      repeat' first
      | (with_reducible exact ih0 _ _ _ _ _ _)
      | (with_reducible exact ih1 _ _ _ _ _ _ _ _)
      | (with_reducible exact impl_IsBall.mono _ _ _ _ _)
      | (with_reducible exact impl_areMatrices.mono _ _)
      | (with_reducible exact impl_keeps.mono _ _ _ _ _ _ _ _ _)
      | (with_reducible exact LeO.refl _)
      | (with_reducible exact LeO.none _)
      | (with_reducible refine LeO.ite ?_ ?_)
      | (with_reducible refine LeO.bind ?_ (fun _ => ?_))
      | exact ih0 _ _ _ _ _ _
      | exact ih1 _ _ _ _ _ _ _ _
      | exact impl_IsBall.mono _ _ _ _ _
      | exact impl_areMatrices.mono _ _
      | exact impl_keeps.mono _ _ _ _ _ _ _ _ _
      | exact LeO.none _
      | refine LeO.ite ?_ ?_
      | refine LeO.bind ?_ (fun _ => ?_)
    · intro y0 y1 y2 y3 y4 y5 y6 y7
      unfold impl_StabiliserIn.l0
      repeat' first
      | (with_reducible exact ih0 _ _ _ _ _ _)
      | (with_reducible exact ih1 _ _ _ _ _ _ _ _)
      | (with_reducible exact impl_IsBall.mono _ _ _ _ _)
      | (with_reducible exact impl_areMatrices.mono _ _)
      | (with_reducible exact impl_keeps.mono _ _ _ _ _ _ _ _ _)
      | (with_reducible exact LeO.refl _)
      | (with_reducible exact LeO.none _)
      | (with_reducible refine LeO.ite ?_ ?_)
      | (with_reducible refine LeO.bind ?_ (fun _ => ?_))
      | exact ih0 _ _ _ _ _ _
      | exact ih1 _ _ _ _ _ _ _ _
      | exact impl_IsBall.mono _ _ _ _ _
      | exact impl_areMatrices.mono _ _
      | exact impl_keeps.mono _ _ _ _ _ _ _ _ _
      | exact LeO.none _
      | refine LeO.ite ?_ ?_
      | refine LeO.bind ?_ (fun _ => ?_)
theorem impl_StabiliserIn.mono : ∀ a0 a1 a2 a3 a4 k, LeO (impl_StabiliserIn.f k a0 a1 a2 a3 a4) (impl_StabiliserIn.f (k + 1) a0 a1 a2 a3 a4) := by
  intro a0 a1 a2 a3 a4 k
  obtain ⟨ih0, ih1⟩ := impl_StabiliserIn.mono_l k
  unfold impl_StabiliserIn.f
  repeat' first
      | (with_reducible exact ih0 _ _ _ _ _ _)
      | (with_reducible exact ih1 _ _ _ _ _ _ _ _)
      | (with_reducible exact impl_IsBall.mono _ _ _ _ _)
      | (with_reducible exact impl_areMatrices.mono _ _)
      | (with_reducible exact impl_keeps.mono _ _ _ _ _ _ _ _ _)
      | (with_reducible exact LeO.refl _)
      | (with_reducible exact LeO.none _)
      | (with_reducible refine LeO.ite ?_ ?_)
      | (with_reducible refine LeO.bind ?_ (fun _ => ?_))
      | exact ih0 _ _ _ _ _ _
      | exact ih1 _ _ _ _ _ _ _ _
      | exact impl_IsBall.mono _ _ _ _ _
      | exact impl_areMatrices.mono _ _
      | exact impl_keeps.mono _ _ _ _ _ _ _ _ _
      | exact LeO.none _
      | refine LeO.ite ?_ ?_
      | refine LeO.bind ?_ (fun _ => ?_)
set_option maxHeartbeats 8000000 in
set_option maxRecDepth 100000 in
theorem impl_StabiliserIn.calls (k : Nat) (a0 : Int) (A1 : Option Addr) (c1 : Nat) (l1 : List (S25)) (a2_0 : Int) (a2_1 : Int) (a2_2 : Int) (r1 : List Int) (r2 : Int) (w : World) (hr1 : Kd.C k25 w A1 l1.length l1) (hc1 : l1.length ≤ c1) (h : impl_StabiliserIn.f k a0 l1 a2_0 a2_1 a2_2 = some (r1, r2)) :
    Calls Try.prog 47 #[.int .i64 a0, .slice A1 l1.length c1, .agg #[.int .i64 a2_0, .int .i64 a2_1, .int .i64 a2_2]] w fun e w' => ∃ v0_ : Value, e = .returned (.tuple #[v0_, .int .i64 r2]) ∧ Kd.R (Kd.int .i64) 2 w' w.heap.size (fun _ => True) v0_ r1 ∧ Below w.heap.size w w' := by
  have hu55 := Try.underlying55
  have hu25 := Try.underlying25
  have HR1 := Aside0.mk hr1
  have HC1 := Aside0.mk hc1
  clear hr1 hc1
  have HB := Aside0.mk (Below.refl w.heap.size w)
  have H : ((impl_IsBall.f k a0 a2_0 a2_1 a2_2).bind fun t819 => (if t819 = true then ((impl_areMatrices.f k l1).bind fun t820 => (impl_StabiliserIn.j0 k a0 l1 (!t820) a2_0 a2_1 a2_2)) else (impl_StabiliserIn.j0 k a0 l1 true a2_0 a2_1 a2_2))) = some (r1, r2) := h
  clear h
  have HC4 := Aside0.mk H
  clear H
  go_enter Try.func47, Try.ntmps47
  go_upto_region 1 with (first | ((with_reducible refine gate_dst (N := 5) rfl ?_); refine box_event ?hg (N := 5) ?hd (cs := #[.int .i64 a2_0, .int .i64 a2_1, .int .i64 a2_2]) (t := 55) ?hr ?_; (case hd => rfl); (case hg => rfl); (case hr => first | (go_simp; done) | (go_simp; rfl)); intro gb818 hg w5 hbox hb; have n0_ := Aside0.mk (below_step blA hb); have n1_ := Aside0.mk (hbox); have n2_ := Aside0.mk (szA hg blA); have n3_ := Aside0.mk (szA hg blA); clear HB; have HB := n0_; have BK818 := n1_; have GW818 := n2_; have GE818 := n3_; clear n0_ n1_ n2_ n3_; clear hb hbox hg))
  (try simp only [Act.put, List.setIfInBounds_toArray, List.set_cons_zero, List.set_cons_succ])
  go_cut [11] (fun v11 wc => ∃ (kq : Nat) (x11_3 : Bool), v11 = .bool x11_3 ∧ Aside0 (impl_StabiliserIn.j0 kq a0 l1 x11_3 a2_0 a2_1 a2_2 = some (r1, r2)) ∧ Aside0 (kq ≤ k) ∧ Aside0 (wc.heap[gb818]? = some (.cells #[.int .i64 a2_0, .int .i64 a2_1, .int .i64 a2_2] 55 (0, 0))) ∧ Aside0 (Below w.heap.size w wc))
  case first =>
    have H := HC4.out
    clear HC4
    replace H := Option.bind_eq_some_iff.mp H
    obtain ⟨t819, A60, H⟩ := H
    replace H : (if t819 = true then ((impl_areMatrices.f k l1).bind fun t820 => (impl_StabiliserIn.j0 k a0 l1 (!t820) a2_0 a2_1 a2_2)) else (impl_StabiliserIn.j0 k a0 l1 true a2_0 a2_1 a2_2)) = some (r1, r2) := H
    have A6 := Aside0.mk A60
    clear A60
    by_cases c7 : t819 = true
    · subst c7
      have H1 : ((impl_areMatrices.f k l1).bind fun t820 => (impl_StabiliserIn.j0 k a0 l1 (!t820) a2_0 a2_1 a2_2)) = some (r1, r2) := by rw [if_pos rfl] at H; exact H
      clear H
      have H := H1
      clear H1
      replace H := Option.bind_eq_some_iff.mp H
      obtain ⟨t820, A80, H⟩ := H
      replace H : (impl_StabiliserIn.j0 k a0 l1 (!t820) a2_0 a2_1 a2_2) = some (r1, r2) := H
      have A8 := Aside0.mk A80
      clear A80
      have H' := Aside0.mk H
      clear H
      have hcz9_0 : w5.cell? ⟨gb818, 0, none⟩ = some (.int .i64 a2_0) := (blk_cell BK818.out 0).trans rfl
      have hcz9_1 : w5.cell? ⟨gb818, 1, none⟩ = some (.int .i64 a2_1) := (blk_cell BK818.out 1).trans rfl
      have hcz9_2 : w5.cell? ⟨gb818, 2, none⟩ = some (.int .i64 a2_2) := (blk_cell BK818.out 2).trans rfl
      have hfz9_0 := blk_frozen BK818.out 0
      have hfz9_1 := blk_frozen BK818.out 1
      have hfz9_2 := blk_frozen BK818.out 2
      go_wp2_with (first | ((with_reducible refine gate_callee (f := 78) rfl ?_); refine goesL_ (some 14) rfl rfl Try.func78 (by kernel_rfl) rfl #[.int .i64 a0, .agg #[.int .i64 a2_0, .int .i64 a2_1, .int .i64 a2_2]] rfl (by (try simp only [List.map_toArray, List.map_cons, List.map_nil]); first | done | rfl | (simp only [List.length_drop, List.length_take]; rfl)) ?_; (with_reducible refine (impl_IsBall.calls k a0 a2_0 a2_1 a2_2 true _ A6.out).mono ?_); rintro e w10 ⟨rfl, hb⟩; refine ⟨_, rfl, ?_⟩; have n0_ := Aside0.mk (blk_below (bkA BK818) hb); have n1_ := Aside0.mk (below_step blA hb); clear BK818; clear HB; have BK818 := n0_; have HB := n1_; clear n0_ n1_; (try clear hb); (try clear hb2); (try clear hk); (try clear hi)) | (go_at_call 57; (with_reducible refine (impl_areMatrices.calls k _ _ l1 t820 _ ?side1 ?side2 A8.out).mono ?_); (case side1 => repeat (first | exact (Kd.C_below HR1.out HB.out) | (with_reducible refine Kd.C_alloc ?_ _) | (with_reducible refine Kd.C_drewN ?_ _) | (with_reducible refine Kd.C_drew ?_))); (case side2 => exact HC1.out); rintro e w11 ⟨rfl, hb⟩; have n0_ := Aside0.mk (blk_below (bkA BK818) hb); have n1_ := Aside0.mk (below_step blA hb); clear BK818; clear HB; have BK818 := n0_; have HB := n1_; clear n0_ n1_; (try clear hb); (try clear hb2); (try clear hk); (try clear hi)))
      go_meet
      case rel => exact ⟨_, (!t820), (by first | rfl | (simp; done) | (simp [*]; done)), H', ⟨by first | omega | exact Nat.le_refl _⟩, ⟨bkA BK818⟩, ⟨blA⟩⟩
    · replace c7 := Bool.eq_false_iff.mpr c7
      subst c7
      have H1 : (impl_StabiliserIn.j0 k a0 l1 true a2_0 a2_1 a2_2) = some (r1, r2) := by rw [if_neg (show ¬ (false = true) by decide)] at H; exact H
      clear H
      have H := H1
      clear H1
      have H' := Aside0.mk H
      clear H
      have hcz12_0 : w5.cell? ⟨gb818, 0, none⟩ = some (.int .i64 a2_0) := (blk_cell BK818.out 0).trans rfl
      have hcz12_1 : w5.cell? ⟨gb818, 1, none⟩ = some (.int .i64 a2_1) := (blk_cell BK818.out 1).trans rfl
      have hcz12_2 : w5.cell? ⟨gb818, 2, none⟩ = some (.int .i64 a2_2) := (blk_cell BK818.out 2).trans rfl
      have hfz12_0 := blk_frozen BK818.out 0
      have hfz12_1 := blk_frozen BK818.out 1
      have hfz12_2 := blk_frozen BK818.out 2
      go_wp2_with (first | ((with_reducible refine gate_callee (f := 78) rfl ?_); refine goesL_ (some 14) rfl rfl Try.func78 (by kernel_rfl) rfl #[.int .i64 a0, .agg #[.int .i64 a2_0, .int .i64 a2_1, .int .i64 a2_2]] rfl (by (try simp only [List.map_toArray, List.map_cons, List.map_nil]); first | done | rfl | (simp only [List.length_drop, List.length_take]; rfl)) ?_; (with_reducible refine (impl_IsBall.calls k a0 a2_0 a2_1 a2_2 false _ A6.out).mono ?_); rintro e w13 ⟨rfl, hb⟩; refine ⟨_, rfl, ?_⟩; have n0_ := Aside0.mk (blk_below (bkA BK818) hb); have n1_ := Aside0.mk (below_step blA hb); clear BK818; clear HB; have BK818 := n0_; have HB := n1_; clear n0_ n1_; (try clear hb); (try clear hb2); (try clear hk); (try clear hi)))
      go_meet
      case rel => exact ⟨_, (true), (by first | rfl | (simp; done) | (simp [*]; done)), H', ⟨by first | omega | exact Nat.le_refl _⟩, ⟨bkA BK818⟩, ⟨blA⟩⟩
  case rest =>
    clear HC4
    try clear c1
    try clear p2
    try clear c4
    try clear c7
    try clear hcz12_0
    try clear hcz12_1
    try clear hcz12_2
    try clear hcz9_0
    try clear hcz9_1
    try clear hcz9_2
    try clear hfz12_0
    try clear hfz12_1
    try clear hfz12_2
    try clear hfz9_0
    try clear hfz9_1
    try clear hfz9_2
    obtain ⟨kq, x11_3, rfl, HA, HJ3, BK818, HB⟩ := hcut
    cases kq with
    | zero => exact absurd HA.out (by simp [impl_StabiliserIn.j0])
    | succ kj3 =>
      have H := HA.out
      clear HA
      simp only [impl_StabiliserIn.j0] at H
      by_cases c14 : x11_3 = true
      · subst c14
        have H1 : (some (([] : List Int), 1)) = some (r1, r2) := by rw [if_pos rfl] at H; exact H
        clear H
        have H := H1
        clear H1
        simp only [Option.some.injEq, Prod.mk.injEq] at H
        obtain ⟨rfl, rfl⟩ := H
        go_wp2
        go_ret2
        exact ⟨_, by first | rfl | (simp [errW_none, errW_some] <;> rfl) | (simp [*, errW_none, errW_some] <;> rfl), by first | exact Kd.R_nil _ _ _ _ _ | exact Kd.N_nil _ _ _ _ _ | exact Kd.V_nil _ _ _ _ _ | exact Kd.Q_nil _ _ _ _ _ | exact Kd.S_nil _ _ _ _ _, blA⟩
      · replace c14 := Bool.eq_false_iff.mpr c14
        subst c14
        have H1 : (if (l1.length : Int) > 48 then (some (([] : List Int), 2)) else (impl_StabiliserIn.l0 kj3 a0 (([] : List Int)) l1 (l1.length : Int) 0 a2_0 a2_1 a2_2)) = some (r1, r2) := by rw [if_neg (show ¬ (false = true) by decide)] at H; exact H
        clear H
        have H := H1
        clear H1
        by_cases c15 : (l1.length : Int) > 48
        · rw [if_pos c15] at H
          have c15b0 : decide (48 < (l1.length : Int)) = true := decide_eq_true c15
          have c15b1 : decide (48 < l1.length) = true := decide_eq_true (by omega)
          clear c15
          simp only [Option.some.injEq, Prod.mk.injEq] at H
          obtain ⟨rfl, rfl⟩ := H
          go_wp2
          go_ret2
          exact ⟨_, by first | rfl | (simp [errW_none, errW_some] <;> rfl) | (simp [*, errW_none, errW_some] <;> rfl), by first | exact Kd.R_nil _ _ _ _ _ | exact Kd.N_nil _ _ _ _ _ | exact Kd.V_nil _ _ _ _ _ | exact Kd.Q_nil _ _ _ _ _ | exact Kd.S_nil _ _ _ _ _, blA⟩
        · rw [if_neg c15] at H
          have c15b0 : decide (48 < (l1.length : Int)) = false := decide_eq_false c15
          have c15b1 : decide (48 < l1.length) = false := decide_eq_false (by omega)
          clear c15
          obtain ⟨y821, hy821⟩ : ∃ y_ : List Int, y_ = (([] : List Int)) := ⟨_, rfl⟩
          replace H : (impl_StabiliserIn.l0 kj3 a0 y821 l1 (l1.length : Int) 0 a2_0 a2_1 a2_2) = some (r1, r2) := by first | (rw [hy821]; with_reducible exact H) | (have H2_ := (Option.bind_some _ _).symm.trans H; rw [hy821]; with_reducible exact H2_) | (have H2_ := (Option.bind_some _ _).symm.trans H; with_reducible exact H2_) | with_reducible exact H | (rw [hy821]; exact H) | exact H
          have Ny821 := Aside0.mk hy821
          clear hy821
          have H' := Aside0.mk H
          clear H
          go_wp2_with (first | ((with_reducible refine gate_dst (N := 25) rfl ?_); refine Kd.R_lit (Kd.int .i64) _ 2 ?hg (N := 25) ?hd (xs := ([] : List Int)) (inner := []) (ok := fun _ => True) (okp := fun _ => True) ?hr ?hp (fun _ hk => hk) trivial (Below.refl _ _) (Nat.le_refl _) (by simp) ?_; (case hd => rfl); (case hg => rfl); (case hr => first | (go_simp; done) | (go_simp; rfl)); (case hp => exact (Reps.none _ _)); intro v822 w16 ho17 hb hg_ hnew_; clear hg_ hnew_; (first | rw [← Ny821.out] at ho17 | (simp only [Int.reduceToNat] at ho17; rw [← Ny821.out] at ho17)); have n0_ := Aside0.mk (Kd.R_lower ho17 (below_size blA)); have n1_ := Aside0.mk (blk_below (bkA BK818) hb); have n2_ := Aside0.mk (below_step blA hb); clear BK818; clear HB; have HO823 := n0_; have BK818 := n1_; have HB := n2_; clear n0_ n1_ n2_; clear hb ho17))
          go_loopg [8, 28] kj3 (fun kq v8 v28 w' => ∃ (x8_2 : List Int) (x28_2 : Int), v28 = .int .i64 x28_2 ∧ Aside0 (impl_StabiliserIn.l0 kq a0 x8_2 l1 (l1.length : Int) x28_2 a2_0 a2_1 a2_2 = some (r1, r2)) ∧ Aside0 (kq ≤ kj3) ∧ Aside0 (Kd.R (Kd.int .i64) 2 w' w.heap.size (fun _ => True) v8 x8_2) ∧ Aside0 (w'.heap[gb818]? = some (.cells #[.int .i64 a2_0, .int .i64 a2_1, .int .i64 a2_2] 55 (0, 0))) ∧ Aside0 (Below w.heap.size w w'))
          case atStart => exact ⟨(y821), (0), (by first | rfl | (simp; done) | (simp [*]; done)), H', ⟨Nat.le_refl _⟩, ⟨by (with_reducible repeat (first | apply Kd.R_alloc | apply Kd.R_drewN | apply Kd.R_drew)); exact HO823.out⟩, ⟨bkA BK818⟩, ⟨blA⟩⟩
          case round =>
            clear H'
            try clear c1
            try clear p2
            try clear c4
            try clear c7
            try clear c14
            try clear c15
            try clear c15b0
            try clear c15b1
            try clear hcz12_0
            try clear hcz12_1
            try clear hcz12_2
            try clear hcz9_0
            try clear hcz9_1
            try clear hcz9_2
            try clear hfz12_0
            try clear hfz12_1
            try clear hfz12_2
            try clear hfz9_0
            try clear hfz9_1
            try clear hfz9_2
            try clear p2
            obtain ⟨x8_2, x28_2, rfl, HA, HK2, HO_8, BK818, HB⟩ := hrel
            cases gk with
            | zero => exact absurd HA.out (by simp [impl_StabiliserIn.l0])
            | succ k2 =>
              have H := HA.out
              clear HA
              simp only [impl_StabiliserIn.l0] at H
              by_cases c18 : x28_2 < (l1.length : Int)
              · rw [if_pos c18] at H
                have c18b0 : decide (x28_2 < (l1.length : Int)) = true := decide_eq_true c18
                clear c18
                by_cases c19 : 0 ≤ x28_2
                · rw [if_pos c19] at H
                  have c19b0 : decide (0 ≤ x28_2) = true := decide_eq_true c19
                  clear c19
                  by_cases c20 : x28_2 < (l1.length : Int)
                  · rw [if_pos c20] at H
                    have c20b0 : decide (x28_2 < (l1.length : Int)) = true := decide_eq_true c20
                    clear c20
                    replace H := Option.bind_eq_some_iff.mp H
                    obtain ⟨t826, A210, H⟩ := H
                    replace H : (if t826 = true then (if x8_2.length < 17592186044416 then (impl_StabiliserIn.l0 k2 a0 (x8_2 ++ [x28_2]) l1 (l1.length : Int) (wrap64 (x28_2 + 1)) a2_0 a2_1 a2_2) else (none)) else (impl_StabiliserIn.l0 k2 a0 x8_2 l1 (l1.length : Int) (wrap64 (x28_2 + 1)) a2_0 a2_1 a2_2)) = some (r1, r2) := H
                    have A21 := Aside0.mk A210
                    clear A210
                    by_cases c22 : t826 = true
                    · subst c22
                      have H1 : (if x8_2.length < 17592186044416 then (impl_StabiliserIn.l0 k2 a0 (x8_2 ++ [x28_2]) l1 (l1.length : Int) (wrap64 (x28_2 + 1)) a2_0 a2_1 a2_2) else (none)) = some (r1, r2) := by rw [if_pos rfl] at H; exact H
                      clear H
                      have H := H1
                      clear H1
                      by_cases c23 : x8_2.length < 17592186044416
                      · rw [if_pos c23] at H
                        have LMc23 := Aside0.mk c23
                        clear c23
                        obtain ⟨y827, hy827⟩ : ∃ y_ : List Int, y_ = (x8_2 ++ [x28_2]) := ⟨_, rfl⟩
                        replace H : (impl_StabiliserIn.l0 k2 a0 y827 l1 (l1.length : Int) (wrap64 (x28_2 + 1)) a2_0 a2_1 a2_2) = some (r1, r2) := by first | (rw [hy827]; with_reducible exact H) | (have H2_ := (Option.bind_some _ _).symm.trans H; rw [hy827]; with_reducible exact H2_) | (have H2_ := (Option.bind_some _ _).symm.trans H; with_reducible exact H2_) | with_reducible exact H | (rw [hy827]; exact H) | exact H
                        have Ny827 := Aside0.mk hy827
                        clear hy827
                        have H' := Aside0.mk H
                        clear H
                        have p824 : 0 ≤ (x28_2 : Int) := of_decide_eq_true (by first | (with_reducible assumption) | assumption)
                        have q824 : x28_2 < (l1.length : Int) := of_decide_eq_true (by first | (with_reducible assumption) | assumption)
                        obtain ⟨ad824, e824, hx824_0, hx824_1, hx824_2, hx824_3⟩ := at_T25 HR1.out x28_2 p824 q824
                        cases e824
                        replace hx824_0 := (HB.out.cell (World.block_lt_of_cell? w _ hx824_0)).trans hx824_0
                        replace hx824_1 := (HB.out.cell (World.block_lt_of_cell? w _ hx824_1)).trans hx824_1
                        replace hx824_2 := (HB.out.cell (World.block_lt_of_cell? w _ hx824_2)).trans hx824_2
                        replace hx824_3 := (HB.out.cell (World.block_lt_of_cell? w _ hx824_3)).trans hx824_3
                        replace p824 := eq_true p824
                        replace q824 := eq_true q824
                        go_wp2_with (first | ((with_reducible refine gate_dst (N := 10) rfl ?_); refine box_event ?hg (N := 10) ?hd (cs := #[.int .i64 0, .int .i64 0, .int .i64 0, .int .i64 0]) (t := 25) ?hr ?_; (case hd => rfl); (case hg => rfl); (case hr => first | (go_simp; done) | (go_simp; rfl)); intro gb825 hg w24 hbox hb; have n0_ := Aside0.mk (Kd.R_below (by (with_reducible repeat (first | apply Kd.R_alloc | apply Kd.R_drewN | apply Kd.R_drew)); exact HO_8.out) hb); have n1_ := Aside0.mk (blk_below (bkA BK818) hb); have n2_ := Aside0.mk (below_step blA hb); have n3_ := Aside0.mk (hbox); have n4_ := Aside0.mk (szA hg blA); have n5_ := Aside0.mk (szA hg blA); have n6_ := Aside0.mk (neA hg (bkA BK818)); have n7_ := Aside0.mk (neB hg (bkA BK818)); clear HO_8; clear BK818; clear HB; have HO_8 := n0_; have BK818 := n1_; have HB := n2_; have BK825 := n3_; have GW825 := n4_; have GE825 := n5_; have NB818_825 := n6_; have NB825_818 := n7_; clear n0_ n1_ n2_ n3_ n4_ n5_ n6_ n7_; clear hb hbox hg; have hnb25 := NB825_818.out; have hnc25 := NB818_825.out; have hcz26_0 : w24.cell? ⟨gb825, 0, none⟩ = some (.int .i64 0) := (blk_cell BK825.out 0).trans rfl; have hcz26_1 : w24.cell? ⟨gb825, 1, none⟩ = some (.int .i64 0) := (blk_cell BK825.out 1).trans rfl; have hcz26_2 : w24.cell? ⟨gb825, 2, none⟩ = some (.int .i64 0) := (blk_cell BK825.out 2).trans rfl; have hcz26_3 : w24.cell? ⟨gb825, 3, none⟩ = some (.int .i64 0) := (blk_cell BK825.out 3).trans rfl; have hfz26_0 := blk_frozen BK825.out 0; have hfz26_1 := blk_frozen BK825.out 1; have hfz26_2 := blk_frozen BK825.out 2; have hfz26_3 := blk_frozen BK825.out 3; have hcz27_0 : w24.cell? ⟨gb818, 0, none⟩ = some (.int .i64 a2_0) := (blk_cell BK818.out 0).trans rfl; have hcz27_1 : w24.cell? ⟨gb818, 1, none⟩ = some (.int .i64 a2_1) := (blk_cell BK818.out 1).trans rfl; have hcz27_2 : w24.cell? ⟨gb818, 2, none⟩ = some (.int .i64 a2_2) := (blk_cell BK818.out 2).trans rfl; have hfz27_0 := blk_frozen BK818.out 0; have hfz27_1 := blk_frozen BK818.out 1; have hfz27_2 := blk_frozen BK818.out 2) | ((with_reducible refine gate_callee (f := 84) rfl ?_); refine goesL_ (some 36) rfl rfl Try.func84 (by kernel_rfl) rfl #[.int .i64 a0, .agg #[.int .i64 ((rd_T25 l1 x28_2).f0.f0), .int .i64 ((rd_T25 l1 x28_2).f0.f1), .int .i64 ((rd_T25 l1 x28_2).f1.f0), .int .i64 ((rd_T25 l1 x28_2).f1.f1)], .agg #[.int .i64 a2_0, .int .i64 a2_1, .int .i64 a2_2]] rfl (by (try simp only [List.map_toArray, List.map_cons, List.map_nil]); first | done | rfl | (simp only [List.length_drop, List.length_take]; rfl)) ?_; (with_reducible refine (impl_keeps.calls k2 a0 ((rd_T25 l1 x28_2).f0.f0) ((rd_T25 l1 x28_2).f0.f1) ((rd_T25 l1 x28_2).f1.f0) ((rd_T25 l1 x28_2).f1.f1) a2_0 a2_1 a2_2 true _ A21.out).mono ?_); rintro e w28 ⟨rfl, hb⟩; refine ⟨_, rfl, ?_⟩; have n0_ := Aside0.mk (Kd.R_below (by (with_reducible repeat (first | apply Kd.R_alloc | apply Kd.R_drewN | apply Kd.R_drew)); exact (Kd.R_mono (Kd.R_far (p := ⟨gb825, 3, none⟩) (Kd.R_far (p := ⟨gb825, 2, none⟩) (Kd.R_far (p := ⟨gb825, 1, none⟩) (Kd.R_far (p := ⟨gb825, 0, none⟩) (Kd.R_types HO_8.out BK825.out (by decide)) (fun _ hk => hk.2) (.int .i64 ((rd_T25 l1 x28_2).f0.f0))) (fun _ hk => hk.2) (.int .i64 ((rd_T25 l1 x28_2).f0.f1))) (fun _ hk => hk.2) (.int .i64 ((rd_T25 l1 x28_2).f1.f0))) (fun _ hk => hk.2) (.int .i64 ((rd_T25 l1 x28_2).f1.f1))) (fun _ h_ => h_.1))) hb); have n1_ := Aside0.mk (blk_below (g := gb818) (o := .cells #[.int .i64 a2_0, .int .i64 a2_1, .int .i64 a2_2] 55 (0, 0)) (by (with_reducible repeat (first | refine blk_drewN ?_ _ | refine blk_drew ?_ | refine blk_alloc ?_ _)); refine blk_far ?_ NB818_825.out _; (with_reducible repeat (first | refine blk_drewN ?_ _ | refine blk_drew ?_ | refine blk_alloc ?_ _)); refine blk_far ?_ NB818_825.out _; (with_reducible repeat (first | refine blk_drewN ?_ _ | refine blk_drew ?_ | refine blk_alloc ?_ _)); refine blk_far ?_ NB818_825.out _; (with_reducible repeat (first | refine blk_drewN ?_ _ | refine blk_drew ?_ | refine blk_alloc ?_ _)); refine blk_far ?_ NB818_825.out _; (with_reducible repeat (first | refine blk_drewN ?_ _ | refine blk_drew ?_ | refine blk_alloc ?_ _)); exact BK818.out) hb); have n2_ := Aside0.mk (blk_below (g := gb825) (o := .cells #[.int .i64 ((rd_T25 l1 x28_2).f0.f0), .int .i64 ((rd_T25 l1 x28_2).f0.f1), .int .i64 ((rd_T25 l1 x28_2).f1.f0), .int .i64 ((rd_T25 l1 x28_2).f1.f1)] 25 (0, 0)) (by (with_reducible repeat (first | refine blk_drewN ?_ _ | refine blk_drew ?_ | refine blk_alloc ?_ _)); refine blk_put (cs := #[.int .i64 ((rd_T25 l1 x28_2).f0.f0), .int .i64 ((rd_T25 l1 x28_2).f0.f1), .int .i64 ((rd_T25 l1 x28_2).f1.f0), .int .i64 0]) ?_ 3 _ rfl; (with_reducible repeat (first | refine blk_drewN ?_ _ | refine blk_drew ?_ | refine blk_alloc ?_ _)); refine blk_put (cs := #[.int .i64 ((rd_T25 l1 x28_2).f0.f0), .int .i64 ((rd_T25 l1 x28_2).f0.f1), .int .i64 0, .int .i64 0]) ?_ 2 _ rfl; (with_reducible repeat (first | refine blk_drewN ?_ _ | refine blk_drew ?_ | refine blk_alloc ?_ _)); refine blk_put (cs := #[.int .i64 ((rd_T25 l1 x28_2).f0.f0), .int .i64 0, .int .i64 0, .int .i64 0]) ?_ 1 _ rfl; (with_reducible repeat (first | refine blk_drewN ?_ _ | refine blk_drew ?_ | refine blk_alloc ?_ _)); refine blk_put (cs := #[.int .i64 0, .int .i64 0, .int .i64 0, .int .i64 0]) ?_ 0 _ rfl; (with_reducible repeat (first | refine blk_drewN ?_ _ | refine blk_drew ?_ | refine blk_alloc ?_ _)); exact BK825.out) hb); have n3_ := Aside0.mk (below_step blA hb); clear HO_8; clear BK818; clear BK825; clear HB; have HO_8 := n0_; have BK818 := n1_; have BK825 := n2_; have HB := n3_; clear n0_ n1_ n2_ n3_; (try clear hb); (try clear hb2); (try clear hk); (try clear hi)) | ((with_reducible refine gate_builtin (b := .append) (xs := #[.tmp 37, .tmp 39]) rfl ?_); at_builtin; refine Kd.R_append (Kd.int .i64) (w0 := w) w.heap.size rfl (.tmp 37) (.tmp 39) 62 2 (.int .i64 0) 8 rfl Try.underlying62 info2 rfl (by decide) (by omega) u8 x8_2 x28_2 [.int .i64 x28_2] (fun _ => True) (fun _ => False) rfl rfl ?aP (fun _ hk => hk.elim) ?aF ?aO ?aB ?aS ?aL ?_; (case aP => exact rfl); (case aB => exact blA); (case aF => exact (fun _ _ => trivial)); (case aO => exact (by (with_reducible repeat (first | apply Kd.R_alloc | apply Kd.R_drewN | apply Kd.R_drew)); exact HO_8.out)); (case aS => exact (below_size blA)); (case aL => have := LMc23.out; omega); intro v828 w29 ho hb hg hat; rw [← Ny827.out] at ho; have n0_ := Aside0.mk (blk_grown (bkA BK818) hg (Kd.R_ne HO_8.out BK818.out (by decide))); have n1_ := Aside0.mk (blk_grown (bkA BK825) hg (Kd.R_ne HO_8.out BK825.out (by decide))); have n2_ := Aside0.mk (hb); have n3_ := Aside0.mk (ho); clear BK818; clear BK825; clear HB; clear HO_8; have BK818 := n0_; have BK825 := n1_; have HB := n2_; have HO829 := n3_; clear n0_ n1_ n2_ n3_; clear ho hb hg hat))
                        go_roundg k2
                        case measure => have := HJ3.out; have := HK2.out; omega
                        case rel => exact ⟨(y827), (wrap64 (x28_2 + 1)), (by first | rfl | (simp; done) | (simp [*]; done)), H', ⟨by have := HJ3.out; have := HK2.out; omega⟩, ⟨by (with_reducible repeat (first | apply Kd.R_alloc | apply Kd.R_drewN | apply Kd.R_drew)); exact HO829.out⟩, ⟨bkA BK818⟩, ⟨blA⟩⟩
                      · rw [if_neg c23] at H
                        exact absurd H (by simp)
                    · replace c22 := Bool.eq_false_iff.mpr c22
                      subst c22
                      have H1 : (impl_StabiliserIn.l0 k2 a0 x8_2 l1 (l1.length : Int) (wrap64 (x28_2 + 1)) a2_0 a2_1 a2_2) = some (r1, r2) := by rw [if_neg (show ¬ (false = true) by decide)] at H; exact H
                      clear H
                      have H := H1
                      clear H1
                      have H' := Aside0.mk H
                      clear H
                      have p824 : 0 ≤ (x28_2 : Int) := of_decide_eq_true (by first | (with_reducible assumption) | assumption)
                      have q824 : x28_2 < (l1.length : Int) := of_decide_eq_true (by first | (with_reducible assumption) | assumption)
                      obtain ⟨ad824, e824, hx824_0, hx824_1, hx824_2, hx824_3⟩ := at_T25 HR1.out x28_2 p824 q824
                      cases e824
                      replace hx824_0 := (HB.out.cell (World.block_lt_of_cell? w _ hx824_0)).trans hx824_0
                      replace hx824_1 := (HB.out.cell (World.block_lt_of_cell? w _ hx824_1)).trans hx824_1
                      replace hx824_2 := (HB.out.cell (World.block_lt_of_cell? w _ hx824_2)).trans hx824_2
                      replace hx824_3 := (HB.out.cell (World.block_lt_of_cell? w _ hx824_3)).trans hx824_3
                      replace p824 := eq_true p824
                      replace q824 := eq_true q824
                      go_wp2_with (first | ((with_reducible refine gate_dst (N := 10) rfl ?_); refine box_event ?hg (N := 10) ?hd (cs := #[.int .i64 0, .int .i64 0, .int .i64 0, .int .i64 0]) (t := 25) ?hr ?_; (case hd => rfl); (case hg => rfl); (case hr => first | (go_simp; done) | (go_simp; rfl)); intro gb825 hg w30 hbox hb; have n0_ := Aside0.mk (Kd.R_below (by (with_reducible repeat (first | apply Kd.R_alloc | apply Kd.R_drewN | apply Kd.R_drew)); exact HO_8.out) hb); have n1_ := Aside0.mk (blk_below (bkA BK818) hb); have n2_ := Aside0.mk (below_step blA hb); have n3_ := Aside0.mk (hbox); have n4_ := Aside0.mk (szA hg blA); have n5_ := Aside0.mk (szA hg blA); have n6_ := Aside0.mk (neA hg (bkA BK818)); have n7_ := Aside0.mk (neB hg (bkA BK818)); clear HO_8; clear BK818; clear HB; have HO_8 := n0_; have BK818 := n1_; have HB := n2_; have BK825 := n3_; have GW825 := n4_; have GE825 := n5_; have NB818_825 := n6_; have NB825_818 := n7_; clear n0_ n1_ n2_ n3_ n4_ n5_ n6_ n7_; clear hb hbox hg; have hnb31 := NB825_818.out; have hnc31 := NB818_825.out; have hcz32_0 : w30.cell? ⟨gb825, 0, none⟩ = some (.int .i64 0) := (blk_cell BK825.out 0).trans rfl; have hcz32_1 : w30.cell? ⟨gb825, 1, none⟩ = some (.int .i64 0) := (blk_cell BK825.out 1).trans rfl; have hcz32_2 : w30.cell? ⟨gb825, 2, none⟩ = some (.int .i64 0) := (blk_cell BK825.out 2).trans rfl; have hcz32_3 : w30.cell? ⟨gb825, 3, none⟩ = some (.int .i64 0) := (blk_cell BK825.out 3).trans rfl; have hfz32_0 := blk_frozen BK825.out 0; have hfz32_1 := blk_frozen BK825.out 1; have hfz32_2 := blk_frozen BK825.out 2; have hfz32_3 := blk_frozen BK825.out 3; have hcz33_0 : w30.cell? ⟨gb818, 0, none⟩ = some (.int .i64 a2_0) := (blk_cell BK818.out 0).trans rfl; have hcz33_1 : w30.cell? ⟨gb818, 1, none⟩ = some (.int .i64 a2_1) := (blk_cell BK818.out 1).trans rfl; have hcz33_2 : w30.cell? ⟨gb818, 2, none⟩ = some (.int .i64 a2_2) := (blk_cell BK818.out 2).trans rfl; have hfz33_0 := blk_frozen BK818.out 0; have hfz33_1 := blk_frozen BK818.out 1; have hfz33_2 := blk_frozen BK818.out 2) | ((with_reducible refine gate_callee (f := 84) rfl ?_); refine goesL_ (some 36) rfl rfl Try.func84 (by kernel_rfl) rfl #[.int .i64 a0, .agg #[.int .i64 ((rd_T25 l1 x28_2).f0.f0), .int .i64 ((rd_T25 l1 x28_2).f0.f1), .int .i64 ((rd_T25 l1 x28_2).f1.f0), .int .i64 ((rd_T25 l1 x28_2).f1.f1)], .agg #[.int .i64 a2_0, .int .i64 a2_1, .int .i64 a2_2]] rfl (by (try simp only [List.map_toArray, List.map_cons, List.map_nil]); first | done | rfl | (simp only [List.length_drop, List.length_take]; rfl)) ?_; (with_reducible refine (impl_keeps.calls k2 a0 ((rd_T25 l1 x28_2).f0.f0) ((rd_T25 l1 x28_2).f0.f1) ((rd_T25 l1 x28_2).f1.f0) ((rd_T25 l1 x28_2).f1.f1) a2_0 a2_1 a2_2 false _ A21.out).mono ?_); rintro e w34 ⟨rfl, hb⟩; refine ⟨_, rfl, ?_⟩; have n0_ := Aside0.mk (Kd.R_below (by (with_reducible repeat (first | apply Kd.R_alloc | apply Kd.R_drewN | apply Kd.R_drew)); exact (Kd.R_mono (Kd.R_far (p := ⟨gb825, 3, none⟩) (Kd.R_far (p := ⟨gb825, 2, none⟩) (Kd.R_far (p := ⟨gb825, 1, none⟩) (Kd.R_far (p := ⟨gb825, 0, none⟩) (Kd.R_types HO_8.out BK825.out (by decide)) (fun _ hk => hk.2) (.int .i64 ((rd_T25 l1 x28_2).f0.f0))) (fun _ hk => hk.2) (.int .i64 ((rd_T25 l1 x28_2).f0.f1))) (fun _ hk => hk.2) (.int .i64 ((rd_T25 l1 x28_2).f1.f0))) (fun _ hk => hk.2) (.int .i64 ((rd_T25 l1 x28_2).f1.f1))) (fun _ h_ => h_.1))) hb); have n1_ := Aside0.mk (blk_below (g := gb818) (o := .cells #[.int .i64 a2_0, .int .i64 a2_1, .int .i64 a2_2] 55 (0, 0)) (by (with_reducible repeat (first | refine blk_drewN ?_ _ | refine blk_drew ?_ | refine blk_alloc ?_ _)); refine blk_far ?_ NB818_825.out _; (with_reducible repeat (first | refine blk_drewN ?_ _ | refine blk_drew ?_ | refine blk_alloc ?_ _)); refine blk_far ?_ NB818_825.out _; (with_reducible repeat (first | refine blk_drewN ?_ _ | refine blk_drew ?_ | refine blk_alloc ?_ _)); refine blk_far ?_ NB818_825.out _; (with_reducible repeat (first | refine blk_drewN ?_ _ | refine blk_drew ?_ | refine blk_alloc ?_ _)); refine blk_far ?_ NB818_825.out _; (with_reducible repeat (first | refine blk_drewN ?_ _ | refine blk_drew ?_ | refine blk_alloc ?_ _)); exact BK818.out) hb); have n2_ := Aside0.mk (blk_below (g := gb825) (o := .cells #[.int .i64 ((rd_T25 l1 x28_2).f0.f0), .int .i64 ((rd_T25 l1 x28_2).f0.f1), .int .i64 ((rd_T25 l1 x28_2).f1.f0), .int .i64 ((rd_T25 l1 x28_2).f1.f1)] 25 (0, 0)) (by (with_reducible repeat (first | refine blk_drewN ?_ _ | refine blk_drew ?_ | refine blk_alloc ?_ _)); refine blk_put (cs := #[.int .i64 ((rd_T25 l1 x28_2).f0.f0), .int .i64 ((rd_T25 l1 x28_2).f0.f1), .int .i64 ((rd_T25 l1 x28_2).f1.f0), .int .i64 0]) ?_ 3 _ rfl; (with_reducible repeat (first | refine blk_drewN ?_ _ | refine blk_drew ?_ | refine blk_alloc ?_ _)); refine blk_put (cs := #[.int .i64 ((rd_T25 l1 x28_2).f0.f0), .int .i64 ((rd_T25 l1 x28_2).f0.f1), .int .i64 0, .int .i64 0]) ?_ 2 _ rfl; (with_reducible repeat (first | refine blk_drewN ?_ _ | refine blk_drew ?_ | refine blk_alloc ?_ _)); refine blk_put (cs := #[.int .i64 ((rd_T25 l1 x28_2).f0.f0), .int .i64 0, .int .i64 0, .int .i64 0]) ?_ 1 _ rfl; (with_reducible repeat (first | refine blk_drewN ?_ _ | refine blk_drew ?_ | refine blk_alloc ?_ _)); refine blk_put (cs := #[.int .i64 0, .int .i64 0, .int .i64 0, .int .i64 0]) ?_ 0 _ rfl; (with_reducible repeat (first | refine blk_drewN ?_ _ | refine blk_drew ?_ | refine blk_alloc ?_ _)); exact BK825.out) hb); have n3_ := Aside0.mk (below_step blA hb); clear HO_8; clear BK818; clear BK825; clear HB; have HO_8 := n0_; have BK818 := n1_; have BK825 := n2_; have HB := n3_; clear n0_ n1_ n2_ n3_; (try clear hb); (try clear hb2); (try clear hk); (try clear hi)))
                      go_roundg k2
                      case measure => have := HJ3.out; have := HK2.out; omega
                      case rel => exact ⟨(x8_2), (wrap64 (x28_2 + 1)), (by first | rfl | (simp; done) | (simp [*]; done)), H', ⟨by have := HJ3.out; have := HK2.out; omega⟩, ⟨by (with_reducible repeat (first | apply Kd.R_alloc | apply Kd.R_drewN | apply Kd.R_drew)); exact HO_8.out⟩, ⟨bkA BK818⟩, ⟨blA⟩⟩
                  · rw [if_neg c20] at H
                    exact absurd H (by simp)
                · rw [if_neg c19] at H
                  exact absurd H (by simp)
              · rw [if_neg c18] at H
                have c18b0 : decide (x28_2 < (l1.length : Int)) = false := decide_eq_false c18
                clear c18
                simp only [Option.some.injEq, Prod.mk.injEq] at H
                obtain ⟨rfl, rfl⟩ := H
                go_wp2
                go_ret2
                exact ⟨_, by first | rfl | (simp [errW_none, errW_some] <;> rfl) | (simp [*, errW_none, errW_some] <;> rfl), by (with_reducible repeat (first | apply Kd.R_alloc | apply Kd.R_drewN | apply Kd.R_drew)); exact HO_8.out, blA⟩
end Go.Proofs.Ytmhajnfdbjnegaa.PAll
