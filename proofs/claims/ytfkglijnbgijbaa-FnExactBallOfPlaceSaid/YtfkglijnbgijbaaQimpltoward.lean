-- turned for this claim out of the kit's print: the same functions, packed anew
import Derived.Test.YtfkglijnbgijbaaQx
import Derived.Test.YtfkglijnbgijbaaQimplneighbour
namespace Go.Proofs.Ytfkglijnbgijbaa.PAll
open Go.RowKit Go.Proofs.YtfkglijnbgijbaaW.PrintWords Go.Proofs.YtfkglijnbgijbaaW.PrintLast Go.Proofs.YtfkglijnbgijbaaW.PrintMore
attribute [local go_sem] Go.Proofs.Ytfkglijnbgijbaa.Aux.setCell_drewN Go.Proofs.Ytfkglijnbgijbaa.Aux.isSome_setCell Go.Proofs.Ytfkglijnbgijbaa.Aux.max_eight max2_int min2_int max_two min_two max_three min_three max_four min_four   -- for this text's walks alone
set_option linter.unusedVariables false
set_option linter.unusedSimpArgs false
attribute [local go_sem high] eqA34
/-! ### impl_toward: function 72 -/
def impl_toward.l0 : Nat → Int → Int → Int → Int → Int → Int → Int → Int → Option (Int)
  | 0, _, _, _, _, _, _, _, _ => none
  | k + 1, x0, x7, x543000, x543001, x543002, x544000, x544001, x544002 => if x7 ≤ x0 then ((impl_neighbour.f k x0 x543000 x543001 x543002 x7).bind fun bt544 => (if bt544.2.2.2 = true then (if (bt544.1 == x544000 && (bt544.2.1 == x544001 && (bt544.2.2.1 == x544002))) = true then (some x7) else (impl_toward.l0 k x0 (wrap64 (x7 + 1)) x543000 x543001 x543002 x544000 x544001 x544002)) else (impl_toward.l0 k x0 (wrap64 (x7 + 1)) x543000 x543001 x543002 x544000 x544001 x544002))) else (some 0)
def impl_toward.f (k : Nat) (a0 : Int) (a1_0 : Int) (a1_1 : Int) (a1_2 : Int) (a2_0 : Int) (a2_1 : Int) (a2_2 : Int) : Option (Int) := impl_toward.l0 k a0 1 a1_0 a1_1 a1_2 a2_0 a2_1 a2_2
theorem impl_toward.mono_l : ∀ k, (∀ y0 y1 y2 y3 y4 y5 y6 y7, LeO (impl_toward.l0 k y0 y1 y2 y3 y4 y5 y6 y7) (impl_toward.l0 (k + 1) y0 y1 y2 y3 y4 y5 y6 y7))
  | 0 => fun _ _ _ _ _ _ _ _ r h => by simp [impl_toward.l0] at h
  | k + 1 => by
    have ih0 := impl_toward.mono_l k
    · intro y0 y1 y2 y3 y4 y5 y6 y7
      unfold impl_toward.l0
      repeat' first
      | (with_reducible exact ih0 _ _ _ _ _ _ _ _)
      | (with_reducible exact impl_neighbour.mono _ _ _ _ _ _)
      | (with_reducible exact LeO.refl _)
      | (with_reducible exact LeO.none _)
      | (with_reducible refine LeO.ite ?_ ?_)
      | (with_reducible refine LeO.bind ?_ (fun _ => ?_))
      | exact ih0 _ _ _ _ _ _ _ _
      | exact impl_neighbour.mono _ _ _ _ _ _
      | exact LeO.none _
      | refine LeO.ite ?_ ?_
      | refine LeO.bind ?_ (fun _ => ?_)
theorem impl_toward.mono : ∀ a0 a1 a2 a3 a4 a5 a6 k, LeO (impl_toward.f k a0 a1 a2 a3 a4 a5 a6) (impl_toward.f (k + 1) a0 a1 a2 a3 a4 a5 a6) := by
  intro a0 a1 a2 a3 a4 a5 a6 k
  have ih0 := impl_toward.mono_l k
  unfold impl_toward.f
  repeat' first
      | (with_reducible exact ih0 _ _ _ _ _ _ _ _)
      | (with_reducible exact impl_neighbour.mono _ _ _ _ _ _)
      | (with_reducible exact LeO.refl _)
      | (with_reducible exact LeO.none _)
      | (with_reducible refine LeO.ite ?_ ?_)
      | (with_reducible refine LeO.bind ?_ (fun _ => ?_))
      | exact ih0 _ _ _ _ _ _ _ _
      | exact impl_neighbour.mono _ _ _ _ _ _
      | exact LeO.none _
      | refine LeO.ite ?_ ?_
      | refine LeO.bind ?_ (fun _ => ?_)
set_option maxHeartbeats 8000000 in
set_option maxRecDepth 100000 in
theorem impl_toward.calls (k : Nat) (a0 : Int) (a1_0 : Int) (a1_1 : Int) (a1_2 : Int) (a2_0 : Int) (a2_1 : Int) (a2_2 : Int) (r : Int) (w : World) (h : impl_toward.f k a0 a1_0 a1_1 a1_2 a2_0 a2_1 a2_2 = some r) :
    Calls Try.prog 72 #[.int .i64 a0, .agg #[.int .i64 a1_0, .int .i64 a1_1, .int .i64 a1_2], .agg #[.int .i64 a2_0, .int .i64 a2_1, .int .i64 a2_2]] w fun e w' => e = .returned (.int .i64 r) ∧ Below w.heap.size w w' := by
  have hu34 := Try.underlying34
  have HB := Aside0.mk (Below.refl w.heap.size w)
  have H : (impl_toward.l0 k a0 1 a1_0 a1_1 a1_2 a2_0 a2_1 a2_2) = some r := h
  clear h
  have H' := Aside0.mk H
  clear H
  go_enter Try.func72, Try.ntmps72
  go_wp2_with (first | ((with_reducible refine gate_dst (N := 4) rfl ?_); refine box_event ?hg (N := 4) ?hd (cs := #[.int .i64 a1_0, .int .i64 a1_1, .int .i64 a1_2]) (t := 34) ?hr ?_; (case hd => rfl); (case hg => rfl); (case hr => first | (go_simp; done) | (go_simp; rfl)); intro gb542 hg w4 hbox hb; have n0_ := Aside0.mk (below_step blA hb); have n1_ := Aside0.mk (hbox); have n2_ := Aside0.mk (szA hg blA); have n3_ := Aside0.mk (szA hg blA); clear HB; have HB := n0_; have BK542 := n1_; have GW542 := n2_; have GE542 := n3_; clear n0_ n1_ n2_ n3_; clear hb hbox hg) | ((with_reducible refine gate_dst (N := 5) rfl ?_); refine box_event ?hg (N := 5) ?hd (cs := #[.int .i64 a2_0, .int .i64 a2_1, .int .i64 a2_2]) (t := 34) ?hr ?_; (case hd => rfl); (case hg => rfl); (case hr => first | (go_simp; done) | (go_simp; rfl)); intro gb543 hg w5 hbox hb; have n0_ := Aside0.mk (blk_below (bkA BK542) hb); have n1_ := Aside0.mk (below_step blA hb); have n2_ := Aside0.mk (hbox); have n3_ := Aside0.mk (szA hg blA); have n4_ := Aside0.mk (szA hg blA); have n5_ := Aside0.mk (neA hg (bkA BK542)); have n6_ := Aside0.mk (neB hg (bkA BK542)); clear BK542; clear HB; have BK542 := n0_; have HB := n1_; have BK543 := n2_; have GW543 := n3_; have GE543 := n4_; have NB542_543 := n5_; have NB543_542 := n6_; clear n0_ n1_ n2_ n3_ n4_ n5_ n6_; clear hb hbox hg))
  go_loopg [7] k (fun kq v7 w' => ∃ (x7_1 : Int), v7 = .int .i64 x7_1 ∧ Aside0 (impl_toward.l0 kq a0 x7_1 a1_0 a1_1 a1_2 a2_0 a2_1 a2_2 = some r) ∧ Aside0 (kq ≤ k) ∧ Aside0 (w'.heap[gb542]? = some (.cells #[.int .i64 a1_0, .int .i64 a1_1, .int .i64 a1_2] 34 (0, 0))) ∧ Aside0 (w'.heap[gb543]? = some (.cells #[.int .i64 a2_0, .int .i64 a2_1, .int .i64 a2_2] 34 (0, 0))) ∧ Aside0 (Below w.heap.size w w'))
  case atStart => exact ⟨(1), (by first | rfl | (simp; done) | (simp [*]; done)), H', ⟨Nat.le_refl _⟩, ⟨bkA BK542⟩, ⟨bkA BK543⟩, ⟨blA⟩⟩
  case round =>
    clear H'
    try clear p2
    obtain ⟨x7_1, rfl, HA, HK1, BK542, BK543, HB⟩ := hrel
    cases gk with
    | zero => exact absurd HA.out (by simp [impl_toward.l0])
    | succ k1 =>
      have H := HA.out
      clear HA
      simp only [impl_toward.l0] at H
      by_cases c6 : x7_1 ≤ a0
      · rw [if_pos c6] at H
        have c6b0 : decide (x7_1 ≤ a0) = true := decide_eq_true c6
        clear c6
        replace H := Option.bind_eq_some_iff.mp H
        obtain ⟨⟨t544, t545, t546, t547⟩, A70, H⟩ := H
        replace H : (if t547 = true then (if (t544 == a2_0 && (t545 == a2_1 && (t546 == a2_2))) = true then (some x7_1) else (impl_toward.l0 k1 a0 (wrap64 (x7_1 + 1)) a1_0 a1_1 a1_2 a2_0 a2_1 a2_2)) else (impl_toward.l0 k1 a0 (wrap64 (x7_1 + 1)) a1_0 a1_1 a1_2 a2_0 a2_1 a2_2)) = some r := H
        have A7 := Aside0.mk A70
        clear A70
        by_cases c8 : t547 = true
        · subst c8
          have H1 : (if (t544 == a2_0 && (t545 == a2_1 && (t546 == a2_2))) = true then (some x7_1) else (impl_toward.l0 k1 a0 (wrap64 (x7_1 + 1)) a1_0 a1_1 a1_2 a2_0 a2_1 a2_2)) = some r := by rw [if_pos rfl] at H; exact H
          clear H
          have H := H1
          clear H1
          by_cases c9 : (t544 == a2_0 && (t545 == a2_1 && (t546 == a2_2))) = true
          · rw [if_pos c9] at H
            have c9b0 : (t544 == a2_0 && (t545 == a2_1 && (t546 == a2_2))) = true := c9
            (try (have c9b1 : decide (t544 = a2_0 && (t545 == a2_1 && (t546 == a2_2))) = true := by simpa using c9))
            (try (have c9b2 : (t544 == a2_0 && (t545 == a2_1 && (t546 == a2_2))) = true := by simpa using c9))
            clear c9
            obtain rfl := Option.some.inj H
            have hnb10 := NB542_543.out
            have hnc10 := NB543_542.out
            have hcz11_0 : wr.cell? ⟨gb542, 0, none⟩ = some (.int .i64 a1_0) := (blk_cell BK542.out 0).trans rfl
            have hcz11_1 : wr.cell? ⟨gb542, 1, none⟩ = some (.int .i64 a1_1) := (blk_cell BK542.out 1).trans rfl
            have hcz11_2 : wr.cell? ⟨gb542, 2, none⟩ = some (.int .i64 a1_2) := (blk_cell BK542.out 2).trans rfl
            have hfz11_0 := blk_frozen BK542.out 0
            have hfz11_1 := blk_frozen BK542.out 1
            have hfz11_2 := blk_frozen BK542.out 2
            go_wp2_with (first | ((with_reducible refine gate_callee (f := 114) rfl ?_); refine goesL_ (some 19) rfl rfl Try.func114 (by kernel_rfl) rfl #[.int .i64 a0, .agg #[.int .i64 a1_0, .int .i64 a1_1, .int .i64 a1_2], .int .i64 x7_1] rfl (by (try simp only [List.map_toArray, List.map_cons, List.map_nil]); first | done | rfl | (simp only [List.length_drop, List.length_take]; rfl)) ?_; (with_reducible refine (impl_neighbour.calls k1 a0 a1_0 a1_1 a1_2 x7_1 t544 t545 t546 true _ A7.out).mono ?_); rintro e w12 ⟨rfl, hb⟩; refine ⟨_, rfl, ?_⟩; have n0_ := Aside0.mk (blk_below (bkA BK542) hb); have n1_ := Aside0.mk (blk_below (bkA BK543) hb); have n2_ := Aside0.mk (below_step blA hb); clear BK542; clear BK543; clear HB; have BK542 := n0_; have BK543 := n1_; have HB := n2_; clear n0_ n1_ n2_; (try clear hb); (try clear hb2); (try clear hk); (try clear hi)) | ((with_reducible refine gate_dst (N := 8) rfl ?_); refine box_event ?hg (N := 8) ?hd (cs := #[.int .i64 0, .int .i64 0, .int .i64 0]) (t := 34) ?hr ?_; (case hd => rfl); (case hg => rfl); (case hr => first | (go_simp; done) | (go_simp; rfl)); intro gb548 hg w13 hbox hb; have n0_ := Aside0.mk (blk_below (bkA BK542) hb); have n1_ := Aside0.mk (blk_below (bkA BK543) hb); have n2_ := Aside0.mk (below_step blA hb); have n3_ := Aside0.mk (hbox); have n4_ := Aside0.mk (szA hg blA); have n5_ := Aside0.mk (szA hg blA); have n6_ := Aside0.mk (neA hg (bkA BK542)); have n7_ := Aside0.mk (neB hg (bkA BK542)); have n8_ := Aside0.mk (neA hg (bkA BK543)); have n9_ := Aside0.mk (neB hg (bkA BK543)); clear BK542; clear BK543; clear HB; have BK542 := n0_; have BK543 := n1_; have HB := n2_; have BK548 := n3_; have GW548 := n4_; have GE548 := n5_; have NB542_548 := n6_; have NB548_542 := n7_; have NB543_548 := n8_; have NB548_543 := n9_; clear n0_ n1_ n2_ n3_ n4_ n5_ n6_ n7_ n8_ n9_; clear hb hbox hg; have hnb14 := NB548_542.out; have hnc14 := NB542_548.out; have hnb15 := NB548_543.out; have hnc15 := NB543_548.out; have hcz16_0 : w13.cell? ⟨gb548, 0, none⟩ = some (.int .i64 0) := (blk_cell BK548.out 0).trans rfl; have hcz16_1 : w13.cell? ⟨gb548, 1, none⟩ = some (.int .i64 0) := (blk_cell BK548.out 1).trans rfl; have hcz16_2 : w13.cell? ⟨gb548, 2, none⟩ = some (.int .i64 0) := (blk_cell BK548.out 2).trans rfl; have hfz16_0 := blk_frozen BK548.out 0; have hfz16_1 := blk_frozen BK548.out 1; have hfz16_2 := blk_frozen BK548.out 2; have hcz17_0 : w13.cell? ⟨gb543, 0, none⟩ = some (.int .i64 a2_0) := (blk_cell BK543.out 0).trans rfl; have hcz17_1 : w13.cell? ⟨gb543, 1, none⟩ = some (.int .i64 a2_1) := (blk_cell BK543.out 1).trans rfl; have hcz17_2 : w13.cell? ⟨gb543, 2, none⟩ = some (.int .i64 a2_2) := (blk_cell BK543.out 2).trans rfl; have hfz17_0 := blk_frozen BK543.out 0; have hfz17_1 := blk_frozen BK543.out 1; have hfz17_2 := blk_frozen BK543.out 2))
            go_ret
            exact ⟨by first | rfl | (simp [errW_none, errW_some] <;> rfl) | (simp [*, errW_none, errW_some] <;> rfl), blA⟩
          · rw [if_neg c9] at H
            have c9b0 : (t544 == a2_0 && (t545 == a2_1 && (t546 == a2_2))) = false := by simpa using c9
            (try (have c9b1 : decide (t544 = a2_0 && (t545 == a2_1 && (t546 == a2_2))) = false := by simpa using c9))
            (try (have c9b2 : (t544 == a2_0 && (t545 == a2_1 && (t546 == a2_2))) = false := by simpa using c9))
            (try (have c9b3 : ¬ (t544 = a2_0 && (t545 == a2_1 && (t546 == a2_2))) := by simpa using c9))
            clear c9
            have H' := Aside0.mk H
            clear H
            have hnb18 := NB542_543.out
            have hnc18 := NB543_542.out
            have hcz19_0 : wr.cell? ⟨gb542, 0, none⟩ = some (.int .i64 a1_0) := (blk_cell BK542.out 0).trans rfl
            have hcz19_1 : wr.cell? ⟨gb542, 1, none⟩ = some (.int .i64 a1_1) := (blk_cell BK542.out 1).trans rfl
            have hcz19_2 : wr.cell? ⟨gb542, 2, none⟩ = some (.int .i64 a1_2) := (blk_cell BK542.out 2).trans rfl
            have hfz19_0 := blk_frozen BK542.out 0
            have hfz19_1 := blk_frozen BK542.out 1
            have hfz19_2 := blk_frozen BK542.out 2
            go_wp2_with (first | ((with_reducible refine gate_callee (f := 114) rfl ?_); refine goesL_ (some 19) rfl rfl Try.func114 (by kernel_rfl) rfl #[.int .i64 a0, .agg #[.int .i64 a1_0, .int .i64 a1_1, .int .i64 a1_2], .int .i64 x7_1] rfl (by (try simp only [List.map_toArray, List.map_cons, List.map_nil]); first | done | rfl | (simp only [List.length_drop, List.length_take]; rfl)) ?_; (with_reducible refine (impl_neighbour.calls k1 a0 a1_0 a1_1 a1_2 x7_1 t544 t545 t546 true _ A7.out).mono ?_); rintro e w20 ⟨rfl, hb⟩; refine ⟨_, rfl, ?_⟩; have n0_ := Aside0.mk (blk_below (bkA BK542) hb); have n1_ := Aside0.mk (blk_below (bkA BK543) hb); have n2_ := Aside0.mk (below_step blA hb); clear BK542; clear BK543; clear HB; have BK542 := n0_; have BK543 := n1_; have HB := n2_; clear n0_ n1_ n2_; (try clear hb); (try clear hb2); (try clear hk); (try clear hi)) | ((with_reducible refine gate_dst (N := 8) rfl ?_); refine box_event ?hg (N := 8) ?hd (cs := #[.int .i64 0, .int .i64 0, .int .i64 0]) (t := 34) ?hr ?_; (case hd => rfl); (case hg => rfl); (case hr => first | (go_simp; done) | (go_simp; rfl)); intro gb548 hg w21 hbox hb; have n0_ := Aside0.mk (blk_below (bkA BK542) hb); have n1_ := Aside0.mk (blk_below (bkA BK543) hb); have n2_ := Aside0.mk (below_step blA hb); have n3_ := Aside0.mk (hbox); have n4_ := Aside0.mk (szA hg blA); have n5_ := Aside0.mk (szA hg blA); have n6_ := Aside0.mk (neA hg (bkA BK542)); have n7_ := Aside0.mk (neB hg (bkA BK542)); have n8_ := Aside0.mk (neA hg (bkA BK543)); have n9_ := Aside0.mk (neB hg (bkA BK543)); clear BK542; clear BK543; clear HB; have BK542 := n0_; have BK543 := n1_; have HB := n2_; have BK548 := n3_; have GW548 := n4_; have GE548 := n5_; have NB542_548 := n6_; have NB548_542 := n7_; have NB543_548 := n8_; have NB548_543 := n9_; clear n0_ n1_ n2_ n3_ n4_ n5_ n6_ n7_ n8_ n9_; clear hb hbox hg; have hnb22 := NB548_542.out; have hnc22 := NB542_548.out; have hnb23 := NB548_543.out; have hnc23 := NB543_548.out; have hcz24_0 : w21.cell? ⟨gb548, 0, none⟩ = some (.int .i64 0) := (blk_cell BK548.out 0).trans rfl; have hcz24_1 : w21.cell? ⟨gb548, 1, none⟩ = some (.int .i64 0) := (blk_cell BK548.out 1).trans rfl; have hcz24_2 : w21.cell? ⟨gb548, 2, none⟩ = some (.int .i64 0) := (blk_cell BK548.out 2).trans rfl; have hfz24_0 := blk_frozen BK548.out 0; have hfz24_1 := blk_frozen BK548.out 1; have hfz24_2 := blk_frozen BK548.out 2; have hcz25_0 : w21.cell? ⟨gb543, 0, none⟩ = some (.int .i64 a2_0) := (blk_cell BK543.out 0).trans rfl; have hcz25_1 : w21.cell? ⟨gb543, 1, none⟩ = some (.int .i64 a2_1) := (blk_cell BK543.out 1).trans rfl; have hcz25_2 : w21.cell? ⟨gb543, 2, none⟩ = some (.int .i64 a2_2) := (blk_cell BK543.out 2).trans rfl; have hfz25_0 := blk_frozen BK543.out 0; have hfz25_1 := blk_frozen BK543.out 1; have hfz25_2 := blk_frozen BK543.out 2))
            go_roundg k1
            case measure => have := HK1.out; omega
            case rel => exact ⟨(wrap64 (x7_1 + 1)), (by first | rfl | (simp; done) | (simp [*]; done)), H', ⟨by have := HK1.out; omega⟩, ⟨by (with_reducible repeat (first | refine blk_drewN ?_ _ | refine blk_drew ?_ | refine blk_alloc ?_ _)); refine blk_far ?_ NB542_548.out _; (with_reducible repeat (first | refine blk_drewN ?_ _ | refine blk_drew ?_ | refine blk_alloc ?_ _)); refine blk_far ?_ NB542_548.out _; (with_reducible repeat (first | refine blk_drewN ?_ _ | refine blk_drew ?_ | refine blk_alloc ?_ _)); refine blk_far ?_ NB542_548.out _; (with_reducible repeat (first | refine blk_drewN ?_ _ | refine blk_drew ?_ | refine blk_alloc ?_ _)); exact BK542.out⟩, ⟨by (with_reducible repeat (first | refine blk_drewN ?_ _ | refine blk_drew ?_ | refine blk_alloc ?_ _)); refine blk_far ?_ NB543_548.out _; (with_reducible repeat (first | refine blk_drewN ?_ _ | refine blk_drew ?_ | refine blk_alloc ?_ _)); refine blk_far ?_ NB543_548.out _; (with_reducible repeat (first | refine blk_drewN ?_ _ | refine blk_drew ?_ | refine blk_alloc ?_ _)); refine blk_far ?_ NB543_548.out _; (with_reducible repeat (first | refine blk_drewN ?_ _ | refine blk_drew ?_ | refine blk_alloc ?_ _)); exact BK543.out⟩, ⟨blA⟩⟩
        · replace c8 := Bool.eq_false_iff.mpr c8
          subst c8
          have H1 : (impl_toward.l0 k1 a0 (wrap64 (x7_1 + 1)) a1_0 a1_1 a1_2 a2_0 a2_1 a2_2) = some r := by rw [if_neg (show ¬ (false = true) by decide)] at H; exact H
          clear H
          have H := H1
          clear H1
          have H' := Aside0.mk H
          clear H
          have hnb26 := NB542_543.out
          have hnc26 := NB543_542.out
          have hcz27_0 : wr.cell? ⟨gb542, 0, none⟩ = some (.int .i64 a1_0) := (blk_cell BK542.out 0).trans rfl
          have hcz27_1 : wr.cell? ⟨gb542, 1, none⟩ = some (.int .i64 a1_1) := (blk_cell BK542.out 1).trans rfl
          have hcz27_2 : wr.cell? ⟨gb542, 2, none⟩ = some (.int .i64 a1_2) := (blk_cell BK542.out 2).trans rfl
          have hfz27_0 := blk_frozen BK542.out 0
          have hfz27_1 := blk_frozen BK542.out 1
          have hfz27_2 := blk_frozen BK542.out 2
          go_wp2_with (first | ((with_reducible refine gate_callee (f := 114) rfl ?_); refine goesL_ (some 19) rfl rfl Try.func114 (by kernel_rfl) rfl #[.int .i64 a0, .agg #[.int .i64 a1_0, .int .i64 a1_1, .int .i64 a1_2], .int .i64 x7_1] rfl (by (try simp only [List.map_toArray, List.map_cons, List.map_nil]); first | done | rfl | (simp only [List.length_drop, List.length_take]; rfl)) ?_; (with_reducible refine (impl_neighbour.calls k1 a0 a1_0 a1_1 a1_2 x7_1 t544 t545 t546 false _ A7.out).mono ?_); rintro e w28 ⟨rfl, hb⟩; refine ⟨_, rfl, ?_⟩; have n0_ := Aside0.mk (blk_below (bkA BK542) hb); have n1_ := Aside0.mk (blk_below (bkA BK543) hb); have n2_ := Aside0.mk (below_step blA hb); clear BK542; clear BK543; clear HB; have BK542 := n0_; have BK543 := n1_; have HB := n2_; clear n0_ n1_ n2_; (try clear hb); (try clear hb2); (try clear hk); (try clear hi)) | ((with_reducible refine gate_dst (N := 8) rfl ?_); refine box_event ?hg (N := 8) ?hd (cs := #[.int .i64 0, .int .i64 0, .int .i64 0]) (t := 34) ?hr ?_; (case hd => rfl); (case hg => rfl); (case hr => first | (go_simp; done) | (go_simp; rfl)); intro gb548 hg w29 hbox hb; have n0_ := Aside0.mk (blk_below (bkA BK542) hb); have n1_ := Aside0.mk (blk_below (bkA BK543) hb); have n2_ := Aside0.mk (below_step blA hb); have n3_ := Aside0.mk (hbox); have n4_ := Aside0.mk (szA hg blA); have n5_ := Aside0.mk (szA hg blA); have n6_ := Aside0.mk (neA hg (bkA BK542)); have n7_ := Aside0.mk (neB hg (bkA BK542)); have n8_ := Aside0.mk (neA hg (bkA BK543)); have n9_ := Aside0.mk (neB hg (bkA BK543)); clear BK542; clear BK543; clear HB; have BK542 := n0_; have BK543 := n1_; have HB := n2_; have BK548 := n3_; have GW548 := n4_; have GE548 := n5_; have NB542_548 := n6_; have NB548_542 := n7_; have NB543_548 := n8_; have NB548_543 := n9_; clear n0_ n1_ n2_ n3_ n4_ n5_ n6_ n7_ n8_ n9_; clear hb hbox hg; have hnb30 := NB548_542.out; have hnc30 := NB542_548.out; have hnb31 := NB548_543.out; have hnc31 := NB543_548.out; have hcz32_0 : w29.cell? ⟨gb548, 0, none⟩ = some (.int .i64 0) := (blk_cell BK548.out 0).trans rfl; have hcz32_1 : w29.cell? ⟨gb548, 1, none⟩ = some (.int .i64 0) := (blk_cell BK548.out 1).trans rfl; have hcz32_2 : w29.cell? ⟨gb548, 2, none⟩ = some (.int .i64 0) := (blk_cell BK548.out 2).trans rfl; have hfz32_0 := blk_frozen BK548.out 0; have hfz32_1 := blk_frozen BK548.out 1; have hfz32_2 := blk_frozen BK548.out 2))
          go_roundg k1
          case measure => have := HK1.out; omega
          case rel => exact ⟨(wrap64 (x7_1 + 1)), (by first | rfl | (simp; done) | (simp [*]; done)), H', ⟨by have := HK1.out; omega⟩, ⟨by (with_reducible repeat (first | refine blk_drewN ?_ _ | refine blk_drew ?_ | refine blk_alloc ?_ _)); refine blk_far ?_ NB542_548.out _; (with_reducible repeat (first | refine blk_drewN ?_ _ | refine blk_drew ?_ | refine blk_alloc ?_ _)); refine blk_far ?_ NB542_548.out _; (with_reducible repeat (first | refine blk_drewN ?_ _ | refine blk_drew ?_ | refine blk_alloc ?_ _)); refine blk_far ?_ NB542_548.out _; (with_reducible repeat (first | refine blk_drewN ?_ _ | refine blk_drew ?_ | refine blk_alloc ?_ _)); exact BK542.out⟩, ⟨by (with_reducible repeat (first | refine blk_drewN ?_ _ | refine blk_drew ?_ | refine blk_alloc ?_ _)); refine blk_far ?_ NB543_548.out _; (with_reducible repeat (first | refine blk_drewN ?_ _ | refine blk_drew ?_ | refine blk_alloc ?_ _)); refine blk_far ?_ NB543_548.out _; (with_reducible repeat (first | refine blk_drewN ?_ _ | refine blk_drew ?_ | refine blk_alloc ?_ _)); refine blk_far ?_ NB543_548.out _; (with_reducible repeat (first | refine blk_drewN ?_ _ | refine blk_drew ?_ | refine blk_alloc ?_ _)); exact BK543.out⟩, ⟨blA⟩⟩
      · rw [if_neg c6] at H
        have c6b0 : decide (x7_1 ≤ a0) = false := decide_eq_false c6
        clear c6
        obtain rfl := Option.some.inj H
        go_wp2
        go_ret
        exact ⟨by first | rfl | (simp [errW_none, errW_some] <;> rfl) | (simp [*, errW_none, errW_some] <;> rfl), blA⟩
end Go.Proofs.Ytfkglijnbgijbaa.PAll
