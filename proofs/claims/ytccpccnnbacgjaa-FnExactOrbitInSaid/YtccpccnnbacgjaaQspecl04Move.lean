-- turned for this claim out of the kit's print: the same functions, packed anew
import Derived.Test.YtccpccnnbacgjaaQx
import Derived.Test.YtccpccnnbacgjaaQLtoBall
import Derived.Test.YtccpccnnbacgjaaQimplofMark
namespace Go.Proofs.Ytccpccnnbacgjaa.PAll
open Go.RowKit Go.Proofs.YtccpccnnbacgjaaW.PrintWords Go.Proofs.YtccpccnnbacgjaaW.PrintLast Go.Proofs.YtccpccnnbacgjaaW.PrintMore
attribute [local go_sem] Go.Proofs.Ytccpccnnbacgjaa.Aux.setCell_drewN Go.Proofs.Ytccpccnnbacgjaa.Aux.isSome_setCell max2_int min2_int max_two min_two max_three min_three max_four min_four   -- for this text's walks alone
set_option linter.unusedVariables false
set_option linter.unusedSimpArgs false
/-! ### spec_l04Move: function 62 -/
mutual
def spec_l04Move.j0 : Nat → Int → Int → Bool → Int → Int → Int → Int → Int → Int → Int → Int → Int → Int → Int → Option (Int × Int × Int × Bool)
 | 0, _, _, _, _, _, _, _, _, _, _, _, _, _, _ => none
 | k + 1, x0, x8, x91, x217000, x217001, x217002, x217003, x218000, x218001, x218002, x223000, x223001, x224000, x224001 => if x91 = true then (spec_l04Move.j1 k x0 x8 x217000 x217001 x217002 x217003 x218000 x218001 x218002 x223000 x223001) else (spec_l04Move.j1 k x0 x8 x217000 x217001 x217002 x217003 x218000 x218001 x218002 x224000 x224001)
def spec_l04Move.j1 : Nat → Int → Int → Int → Int → Int → Int → Int → Int → Int → Int → Int → Option (Int × Int × Int × Bool)
 | 0, _, _, _, _, _, _, _, _, _, _, _ => none
 | k + 1, x0, x8, x217000, x217001, x217002, x217003, x218000, x218001, x218002, x224000, x224001 => (spec_l04Det.f x217000 x217001 x217002 x217003).bind fun t226 => ((spec_l01Val.f k x0 t226).bind fun t227 => ((spec_l01Val.f k x0 x224001).bind fun t228 => ((spec_l01Of.f k x0 x224000 x224001 (wrap64 ((wrap64 ((wrap64 (t227 + x218000)) + (wrap64 (2 * x8)))) - (wrap64 (2 * t228))))).bind fun bt229 => (some (bt229.1, bt229.2.1, bt229.2.2.1, bt229.2.2.2)))))
end
def spec_l04Move.f (k : Nat) (a0 : Int) (a1_0 : Int) (a1_1 : Int) (a1_2 : Int) (a1_3 : Int) (a2_0 : Int) (a2_1 : Int) (a2_2 : Int) : Option (Int × Int × Int × Bool) := (spec_l01Power.f k a0 (wrap64 (a2_0 + (mx a2_2 (wrap64 (-a2_0)))))).bind fun t219 => ((spec_l01Power.f k a0 (mx a2_2 (wrap64 (-a2_0)))).bind fun t220 => ((spec_l01Power.f k a0 (wrap64 ((mx a2_2 (wrap64 (-a2_0))) - a2_2))).bind fun t221 => (if (wrap64 ((wrap64 (a1_2 * (wrap64 (a2_1 * t221)))) + (wrap64 (a1_3 * t220)))) = 0 then (spec_l04Move.j0 k a0 (mx a2_2 (wrap64 (-a2_0))) true a1_0 a1_1 a1_2 a1_3 a2_0 a2_1 a2_2 (wrap64 (a1_0 * t219)) (wrap64 (a1_2 * t219)) (wrap64 ((wrap64 (a1_0 * (wrap64 (a2_1 * t221)))) + (wrap64 (a1_1 * t220)))) (wrap64 ((wrap64 (a1_2 * (wrap64 (a2_1 * t221)))) + (wrap64 (a1_3 * t220))))) else (if (wrap64 (a1_2 * t219)) = 0 then (spec_l04Move.j0 k a0 (mx a2_2 (wrap64 (-a2_0))) false a1_0 a1_1 a1_2 a1_3 a2_0 a2_1 a2_2 (wrap64 (a1_0 * t219)) (wrap64 (a1_2 * t219)) (wrap64 ((wrap64 (a1_0 * (wrap64 (a2_1 * t221)))) + (wrap64 (a1_1 * t220)))) (wrap64 ((wrap64 (a1_2 * (wrap64 (a2_1 * t221)))) + (wrap64 (a1_3 * t220))))) else ((spec_l01Val.f k a0 (wrap64 ((wrap64 (a1_2 * (wrap64 (a2_1 * t221)))) + (wrap64 (a1_3 * t220))))).bind fun t224 => ((spec_l01Val.f k a0 (wrap64 (a1_2 * t219))).bind fun t225 => (spec_l04Move.j0 k a0 (mx a2_2 (wrap64 (-a2_0))) (decide (t224 > t225)) a1_0 a1_1 a1_2 a1_3 a2_0 a2_1 a2_2 (wrap64 (a1_0 * t219)) (wrap64 (a1_2 * t219)) (wrap64 ((wrap64 (a1_0 * (wrap64 (a2_1 * t221)))) + (wrap64 (a1_1 * t220)))) (wrap64 ((wrap64 (a1_2 * (wrap64 (a2_1 * t221)))) + (wrap64 (a1_3 * t220)))))))))))
theorem spec_l04Move.mono_l : ∀ k, (∀ y0 y1 y2 y3 y4 y5 y6 y7 y8 y9 y10 y11 y12 y13, LeO (spec_l04Move.j0 k y0 y1 y2 y3 y4 y5 y6 y7 y8 y9 y10 y11 y12 y13) (spec_l04Move.j0 (k + 1) y0 y1 y2 y3 y4 y5 y6 y7 y8 y9 y10 y11 y12 y13)) ∧ (∀ y0 y1 y2 y3 y4 y5 y6 y7 y8 y9 y10, LeO (spec_l04Move.j1 k y0 y1 y2 y3 y4 y5 y6 y7 y8 y9 y10) (spec_l04Move.j1 (k + 1) y0 y1 y2 y3 y4 y5 y6 y7 y8 y9 y10))
 | 0 => ⟨fun _ _ _ _ _ _ _ _ _ _ _ _ _ _ r h => by simp [spec_l04Move.j0] at h, fun _ _ _ _ _ _ _ _ _ _ _ r h => by simp [spec_l04Move.j1] at h⟩
 | k + 1 => by
  obtain ⟨ih0, ih1⟩ := spec_l04Move.mono_l k
  refine ⟨?_, ?_⟩
  ·
   intro y0 y1 y2 y3 y4 y5 y6 y7 y8 y9 y10 y11 y12 y13
   unfold spec_l04Move.j0
   repeat' first
   | (with_reducible exact ih0 _ _ _ _ _ _ _ _ _ _ _ _ _ _)
   | (with_reducible exact ih1 _ _ _ _ _ _ _ _ _ _ _)
   | (with_reducible exact spec_l01Of.mono _ _ _ _ _)
   | (with_reducible exact spec_l01Power.mono _ _ _)
   | (with_reducible exact spec_l01Val.mono _ _ _)
   | (with_reducible exact LeO.refl _)
   | (with_reducible exact LeO.none _)
   | (with_reducible refine LeO.ite ?_ ?_)
   | (with_reducible refine LeO.bind ?_ (fun _ => ?_))
  ·
   intro y0 y1 y2 y3 y4 y5 y6 y7 y8 y9 y10
   unfold spec_l04Move.j1
   repeat' first
   | (with_reducible exact ih0 _ _ _ _ _ _ _ _ _ _ _ _ _ _)
   | (with_reducible exact ih1 _ _ _ _ _ _ _ _ _ _ _)
   | (with_reducible exact spec_l01Of.mono _ _ _ _ _)
   | (with_reducible exact spec_l01Power.mono _ _ _)
   | (with_reducible exact spec_l01Val.mono _ _ _)
   | (with_reducible exact LeO.refl _)
   | (with_reducible exact LeO.none _)
   | (with_reducible refine LeO.ite ?_ ?_)
   | (with_reducible refine LeO.bind ?_ (fun _ => ?_))
theorem spec_l04Move.mono : ∀ a0 a1 a2 a3 a4 a5 a6 a7 k, LeO (spec_l04Move.f k a0 a1 a2 a3 a4 a5 a6 a7) (spec_l04Move.f (k + 1) a0 a1 a2 a3 a4 a5 a6 a7) := by
 intro a0 a1 a2 a3 a4 a5 a6 a7 k
 obtain ⟨ih0, ih1⟩ := spec_l04Move.mono_l k
 unfold spec_l04Move.f
 repeat' first
   | (with_reducible exact ih0 _ _ _ _ _ _ _ _ _ _ _ _ _ _)
   | (with_reducible exact ih1 _ _ _ _ _ _ _ _ _ _ _)
   | (with_reducible exact spec_l01Of.mono _ _ _ _ _)
   | (with_reducible exact spec_l01Power.mono _ _ _)
   | (with_reducible exact spec_l01Val.mono _ _ _)
   | (with_reducible exact LeO.refl _)
   | (with_reducible exact LeO.none _)
   | (with_reducible refine LeO.ite ?_ ?_)
   | (with_reducible refine LeO.bind ?_ (fun _ => ?_))
def spec_l04Move.T3 : Bool × List (List Nat × List Nat) := (true, [([], []), ([0], [0]), ([], []), ([], []), ([], []), ([4], [4]), ([3, 5], [3, 5]), ([2, 6], [2, 6]), ([1, 7], [1, 7]), ([8, 7, 0, 1, 2, 3, 4, 5, 6, 7, 8], [8])])
def spec_l04Move.B3 : List Nat := [0, 1, 0, 0, 0, 16, 56, 124, 255, 511]
theorem spec_l04Move.tab3 : rtab .any (opsOf Try.f62 3) = spec_l04Move.T3 := by kernel_rfl
theorem spec_l04Move.bits3 : waitsOk spec_l04Move.T3.2 spec_l04Move.B3 = true := by kernel_rfl
def spec_l04Move.T6 : Bool × List (List Nat × List Nat) := (true, [([], []), ([0], [0]), ([1], [1]), ([2], [2]), ([3], [3]), ([4, 3], [3, 4]), ([5, 3], [3, 5]), ([6, 3, 3], [3, 6]), ([7], [7]), ([7], [7]), ([9, 7], [7, 9]), ([8, 10, 7, 7], [7, 8, 10]), ([7], [7]), ([7], [7]), ([13, 7], [7, 13]), ([12, 14, 11, 7], [7, 12, 14]), ([11, 15, 7], [7, 11, 15]), ([7, 16, 3], [3, 7, 16]), ([3, 17], [3, 17])])
def spec_l04Move.B6 : List Nat := [0, 1, 3, 7, 15, 31, 63, 127, 255, 255, 767, 2047, 255, 255, 8447, 32767, 65535, 131071, 262143]
theorem spec_l04Move.tab6 : rtab .any (opsOf Try.f62 6) = spec_l04Move.T6 := by kernel_rfl
theorem spec_l04Move.bits6 : waitsOk spec_l04Move.T6.2 spec_l04Move.B6 = true := by kernel_rfl
def spec_l04Move.T8 : Bool × List (List Nat × List Nat) := (true, [([], []), ([], []), ([1], [1]), ([0, 2, 2], [0, 2]), ([], []), ([4], [4]), ([3, 5], [3, 5]), ([], []), ([7], [7]), ([6, 8], [6, 8]), ([], []), ([], []), ([11], [11]), ([10, 12, 3], [10, 12]), ([13], [13]), ([9, 14], [9, 14]), ([15, 13, 0, 1, 2, 3, 4, 5, 6, 7, 8, 9, 10, 11, 12, 13, 14, 15], [15])])
def spec_l04Move.B8 : List Nat := [0, 0, 2, 7, 0, 16, 63, 0, 128, 511, 0, 0, 2048, 7183, 15375, 32767, 65535]
theorem spec_l04Move.tab8 : rtab .any (opsOf Try.f62 8) = spec_l04Move.T8 := by kernel_rfl
theorem spec_l04Move.bits8 : waitsOk spec_l04Move.T8.2 spec_l04Move.B8 = true := by kernel_rfl
set_option maxHeartbeats 8000000 in
set_option maxRecDepth 100000 in
theorem spec_l04Move.calls (k : Nat) (a0 : Int) (a1_0 : Int) (a1_1 : Int) (a1_2 : Int) (a1_3 : Int) (a2_0 : Int) (a2_1 : Int) (a2_2 : Int) (r1 : Int) (r2 : Int) (r3 : Int) (r4 : Bool) (w : World) (h : spec_l04Move.f k a0 a1_0 a1_1 a1_2 a1_3 a2_0 a2_1 a2_2 = some (r1, r2, r3, r4)) :
  Calls Try.prog 62 #[.int .i64 a0, .agg #[.int .i64 a1_0, .int .i64 a1_1, .int .i64 a1_2, .int .i64 a1_3], .agg #[.int .i64 a2_0, .int .i64 a2_1, .int .i64 a2_2]] w fun e w' => e = .returned (.tuple #[.agg #[.int .i64 r1, .int .i64 r2, .int .i64 r3], .bool r4]) ∧ Below w.heap.size w w' := by
 have hu26 := Try.underlying26
 have hu39 := Try.underlying39
 have hu22 := Try.underlying22
 have HB := Aside0.mk (Below.refl w.heap.size w)
 have H := h
 unfold spec_l04Move.f at H
 clear h
 obtain ⟨ji4, hji4⟩ : ∃ j_ : Int, (mx a2_2 (wrap64 (-a2_0))) = j_ := ⟨_, rfl⟩
 replace H : ((spec_l01Power.f k a0 (wrap64 (a2_0 + (ji4)))).bind fun t219 => ((spec_l01Power.f k a0 (ji4)).bind fun t220 => ((spec_l01Power.f k a0 (wrap64 ((ji4) - a2_2))).bind fun t221 => (if (wrap64 ((wrap64 (a1_2 * (wrap64 (a2_1 * t221)))) + (wrap64 (a1_3 * t220)))) = 0 then (spec_l04Move.j0 k a0 ji4 true a1_0 a1_1 a1_2 a1_3 a2_0 a2_1 a2_2 (wrap64 (a1_0 * t219)) (wrap64 (a1_2 * t219)) (wrap64 ((wrap64 (a1_0 * (wrap64 (a2_1 * t221)))) + (wrap64 (a1_1 * t220)))) (wrap64 ((wrap64 (a1_2 * (wrap64 (a2_1 * t221)))) + (wrap64 (a1_3 * t220))))) else (if (wrap64 (a1_2 * t219)) = 0 then (spec_l04Move.j0 k a0 ji4 false a1_0 a1_1 a1_2 a1_3 a2_0 a2_1 a2_2 (wrap64 (a1_0 * t219)) (wrap64 (a1_2 * t219)) (wrap64 ((wrap64 (a1_0 * (wrap64 (a2_1 * t221)))) + (wrap64 (a1_1 * t220)))) (wrap64 ((wrap64 (a1_2 * (wrap64 (a2_1 * t221)))) + (wrap64 (a1_3 * t220))))) else ((spec_l01Val.f k a0 (wrap64 ((wrap64 (a1_2 * (wrap64 (a2_1 * t221)))) + (wrap64 (a1_3 * t220))))).bind fun t224 => ((spec_l01Val.f k a0 (wrap64 (a1_2 * t219))).bind fun t225 => (spec_l04Move.j0 k a0 ji4 (decide (t224 > t225)) a1_0 a1_1 a1_2 a1_3 a2_0 a2_1 a2_2 (wrap64 (a1_0 * t219)) (wrap64 (a1_2 * t219)) (wrap64 ((wrap64 (a1_0 * (wrap64 (a2_1 * t221)))) + (wrap64 (a1_1 * t220)))) (wrap64 ((wrap64 (a1_2 * (wrap64 (a2_1 * t221)))) + (wrap64 (a1_3 * t220)))))))))))) = some (r1, r2, r3, r4) := by first | (rw [hji4] at H; exact H) | (simp only [hji4] at H ⊢; exact H)
 have hji4_ : (if a2_2 < (wrap64 (-a2_0)) then (wrap64 (-a2_0)) else a2_2) = ji4 := hji4
 replace H := bS H
 obtain ⟨t219, A5, H⟩ := H
 try dsimp only at H
 replace H := bS H
 obtain ⟨t220, A6, H⟩ := H
 try dsimp only at H
 replace H := bS H
 obtain ⟨t221, A7, H⟩ := H
 try dsimp only at H
 have HC8 := Aside0.mk H
 clear H
 go_enter Try.func62, Try.ntmps62
 try go_wp2_with (first | ((with_reducible refine gate_dst (N := 4) rfl ?_); refine box_event ?hg (N := 4) ?hd (cs := #[.int .i64 a1_0, .int .i64 a1_1, .int .i64 a1_2, .int .i64 a1_3]) (t := 26) ?hr ?_; (case hd => rfl); (case hg => rfl); (case hr => first | (go_simp; done) | (go_simp; rfl)); intro gb216 hg w9 hbox hb; have n0_ := lB hb; have n1_ := Aside0.mk (hbox); have n2_ := sA hg; have n3_ := sA hg; clear HB; have HB := n0_; have BK216 := n1_; have GW216 := n2_; have GE216 := n3_; clear n0_ n1_ n2_ n3_; clear hb hbox hg) | ((with_reducible refine gate_dst (N := 5) rfl ?_); refine box_event ?hg (N := 5) ?hd (cs := #[.int .i64 a2_0, .int .i64 a2_1, .int .i64 a2_2]) (t := 39) ?hr ?_; (case hd => rfl); (case hg => rfl); (case hr => first | (go_simp; done) | (go_simp; rfl)); intro gb217 hg w10 hbox hb; have n0_ := kB BK216 hb; have n1_ := lB hb; have n2_ := Aside0.mk (hbox); have n3_ := sA hg; have n4_ := sA hg; have n5_ := nA hg BK216; have n6_ := nB hg BK216; clear BK216; clear HB; have BK216 := n0_; have HB := n1_; have BK217 := n2_; have GW217 := n3_; have GE217 := n4_; have NB216_217 := n5_; have NB217_216 := n6_; clear n0_ n1_ n2_ n3_ n4_ n5_ n6_; clear hb hbox hg) | ((with_reducible refine gate_dst (N := 6) rfl ?_); refine box_event ?hg (N := 6) ?hd (cs := #[.int .i64 0, .int .i64 0, .int .i64 0]) (t := 39) ?hr ?_; (case hd => rfl); (case hg => rfl); (case hr => first | (go_simp; done) | (go_simp; rfl)); intro gb218 hg w11 hbox hb; have n0_ := kB BK216 hb; have n1_ := kB BK217 hb; have n2_ := lB hb; have n3_ := Aside0.mk (hbox); have n4_ := sA hg; have n5_ := sA hg; have n6_ := nA hg BK216; have n7_ := nB hg BK216; have n8_ := nA hg BK217; have n9_ := nB hg BK217; clear BK216; clear BK217; clear HB; have BK216 := n0_; have BK217 := n1_; have HB := n2_; have BK218 := n3_; have GW218 := n4_; have GE218 := n5_; have NB216_218 := n6_; have NB218_216 := n7_; have NB217_218 := n8_; have NB218_217 := n9_; clear n0_ n1_ n2_ n3_ n4_ n5_ n6_ n7_ n8_ n9_; clear hb hbox hg; have hnb12 := NB217_216.out; have hnc12 := NB216_217.out; have hnb13 := NB217_218.out; have hnc13 := NB218_217.out; obtain ⟨hcz14_0, hcz14_1, hcz14_2, hfz14_0, hfz14_1, hfz14_2⟩ := cz3 BK217) | ((with_reducible refine gate_callee (f := 116) rfl ?_); refine goesL_ (some 26) rfl rfl Try.func116 (by kernel_rfl) rfl #[.int .i64 a0, .int .i64 (wrap64 (a2_0 + (ji4)))] rfl (by (try simp only [List.map_toArray, List.map_cons, List.map_nil]); first | done | (simp only [hji4]; rfl) | rfl | (simp only [List.length_drop, List.length_take]; rfl)) ?_; (with_reducible refine (spec_l01Power.calls k a0 (wrap64 (a2_0 + (ji4))) t219 _ A5.out).mono ?_); rintro e w' ⟨rfl, ⟨nd, rfl⟩⟩; refine ⟨_, rfl, ?_⟩; (try (rw [drewN_self w11]; generalize hq_ : World.drewN w11 _ = w11; have n0_ : Aside0 (w11.heap[gb216]? = some (.cells #[.int .i64 a1_0, .int .i64 a1_1, .int .i64 a1_2, .int .i64 a1_3] 26 (0, 0))) := ⟨by rw [← hq_]; exact (bkA BK216)⟩; have n1_ : Aside0 (w11.heap[gb217]? = some (.cells #[.int .i64 a2_0, .int .i64 a2_1, .int .i64 a2_2] 39 (0, 0))) := ⟨by rw [← hq_]; exact (bkA BK217)⟩; have n2_ : Aside0 (w11.heap[gb218]? = some (.cells #[.int .i64 0, .int .i64 0, .int .i64 0] 39 (0, 0))) := ⟨by rw [← hq_]; exact (bkA BK218)⟩; have n3_ : Aside0 (Below w.heap.size w w11) := ⟨by rw [← hq_]; exact blA⟩; clear BK216 BK217 BK218 HB hq_; have BK216 := n0_; have BK217 := n1_; have BK218 := n2_; have HB := n3_; clear n0_ n1_ n2_ n3_))) | ((with_reducible refine gate_callee (f := 116) rfl ?_); refine goesL_ (some 29) rfl rfl Try.func116 (by kernel_rfl) rfl #[.int .i64 a0, .int .i64 ji4] rfl (by (try simp only [List.map_toArray, List.map_cons, List.map_nil]); first | done | (simp only [hji4]; rfl) | rfl | (simp only [List.length_drop, List.length_take]; rfl)) ?_; (with_reducible refine (spec_l01Power.calls k a0 ji4 t220 _ A6.out).mono ?_); rintro e w' ⟨rfl, ⟨nd, rfl⟩⟩; refine ⟨_, rfl, ?_⟩; (try (rw [drewN_self w11]; generalize hq_ : World.drewN w11 _ = w11; have n0_ : Aside0 (w11.heap[gb216]? = some (.cells #[.int .i64 a1_0, .int .i64 a1_1, .int .i64 a1_2, .int .i64 a1_3] 26 (0, 0))) := ⟨by rw [← hq_]; exact (bkA BK216)⟩; have n1_ : Aside0 (w11.heap[gb217]? = some (.cells #[.int .i64 a2_0, .int .i64 a2_1, .int .i64 a2_2] 39 (0, 0))) := ⟨by rw [← hq_]; exact (bkA BK217)⟩; have n2_ : Aside0 (w11.heap[gb218]? = some (.cells #[.int .i64 0, .int .i64 0, .int .i64 0] 39 (0, 0))) := ⟨by rw [← hq_]; exact (bkA BK218)⟩; have n3_ : Aside0 (Below w.heap.size w w11) := ⟨by rw [← hq_]; exact blA⟩; clear BK216 BK217 BK218 HB hq_; have BK216 := n0_; have BK217 := n1_; have BK218 := n2_; have HB := n3_; clear n0_ n1_ n2_ n3_))))
 have n0_ := Aside0.mk (blk_drew BK216.out)
 have n1_ := Aside0.mk (blk_drew BK217.out)
 have n2_ := Aside0.mk (blk_drew BK218.out)
 have n3_ := Aside0.mk (below_drew1 HB.out)
 clear BK216
 clear BK217
 clear BK218
 clear HB
 have BK216 := n0_
 have BK217 := n1_
 have BK218 := n2_
 have HB := n3_
 clear n0_ n1_ n2_ n3_
 refine start_ (n := 10) (S := fun w' => w'.cell? ⟨gb217, 0, none⟩ = some (.int .i64 a2_0) ∧ w'.cell? ⟨gb217, 1, none⟩ = some (.int .i64 a2_1) ∧ w'.cell? ⟨gb217, 2, none⟩ = some (.int .i64 a2_2)) (ds := []) #[Z, Z, Z, Z, Z, Z, Z, Z, Z, Z] (by kernel_rfl) rfl rfl ⟨cA BK217 0, cA BK217 1, cA BK217 2⟩ (fun hHeld => ?_); refine with_tabW spec_l04Move.tab3 spec_l04Move.bits3 (fun HT_ HW_ => ?_)
 generalize w11.drew = w15 at BK216 BK217 BK218 HB hHeld ⊢
 refine puA (i := 0) (N := some 30) #[Y, Z, Z, Z, Z, Z, Z, Z, Z, Z] rfl rfl HT_ ?_
 refine puA (i := 2) (N := some 32) #[Y, Z, Y, Z, Z, Z, Z, Z, Z, Z] rfl rfl HT_ ?_
 refine puA (i := 3) (N := some 33) #[Y, Z, Y, Y, Z, Z, Z, Z, Z, Z] rfl rfl HT_ ?_
 refine puA (i := 4) (N := some 34) #[Y, Z, Y, Y, Y, Z, Z, Z, Z, Z] rfl rfl HT_ ?_
 refine take_ (i := 1) (N := some 31) (v := ?_) (a' := ?_) #[Y, Y, Y, Y, Y, Z, Z, Z, Z, Z] rfl rfl (take_ofW HT_.out HW_.out (by kernel_rfl)) (fun _ _ _ h => h) (Or.inl ⟨by rfl, ?_⟩) hHeld ?_ ?_
 rotate_left
 ·
  rintro w' ⟨s0, s1, s2⟩
  go_simp
  with_reducible rfl
 rotate_left
 ·
  simp only [pA]
  rfl
 refine take_ (i := 5) (N := some 35) (v := ?_) (a' := ?_) #[Y, Y, Y, Y, Y, Y, Z, Z, Z, Z] rfl rfl (take_ofW HT_.out HW_.out (by kernel_rfl)) (fun _ _ _ h => h) (Or.inl ⟨by rfl, ?_⟩) hHeld ?_ ?_
 rotate_left
 ·
  rintro w' ⟨s0, s1, s2⟩
  go_simp
  with_reducible rfl
 rotate_left
 ·
  simp only [pA]
  rfl
 refine puA (i := 6) (N := some 36) #[Y, Y, Y, Y, Y, Y, Y, Z, Z, Z] rfl rfl HT_ ?_
 refine one_ (i := 7) (N := some 37) #[Y, Y, Y, Y, Y, Y, Y, Y, Z, Z] rfl rfl (one_of HT_.out (by kernel_rfl)) (by decide) (fun K hK => ?_)
 refine goes_ Try.func116 (by kernel_rfl) rfl #[.int .i64 a0, .int .i64 (wrap64 ((ji4) - a2_2))] (by rfl) rfl rfl (by (try simp only [List.map_toArray, List.map_cons, List.map_nil]); first | done | (simp only [hji4]; rfl) | rfl | (simp only [List.length_drop, List.length_take]; rfl)) ?_
 with_reducible refine (spec_l01Power.calls k a0 (wrap64 ((ji4) - a2_2)) t221 _ A7.out).mono ?_
 rintro e w' ⟨rfl, ⟨nd, rfl⟩⟩
 refine ⟨_, rfl, ?_⟩
 refine hK.out _ _ ⟨cA BK217 0, cA BK217 1, cA BK217 2⟩ (fun hHeld => ?_)
 clear hK K
 refine norm_ (a' := ?_) ?_ ?_
 rotate_left
 ·
  show Act.put _ (some 37) _ = _
  simp only [pA]
  rfl
 refine puA (i := 8) (N := some 38) #[Y, Y, Y, Y, Y, Y, Y, Y, Y, Z] rfl rfl HT_ ?_
 refine puA (i := 9) (N := some 11) #[Y, Y, Y, Y, Y, Y, Y, Y, Y, Y] rfl rfl HT_ ?_
 refine done_ (done_of HT_.out (by kernel_rfl)) ?_
 have hnb16 := NB216_218.out
 have hnc16 := NB218_216.out
 obtain ⟨hcz17_0, hcz17_1, hcz17_2, hcz17_3, hfz17_0, hfz17_1, hfz17_2, hfz17_3⟩ := cz4 BK216
 go_upto_region 6 with (first | ((with_reducible refine gate_dst (N := 12) rfl ?_); refine box_event ?hg (N := 12) ?hd (cs := #[.int .i64 0, .int .i64 0]) (t := 22) ?hr ?_; (case hd => rfl); (case hg => rfl); (case hr => first | (go_simp; done) | (go_simp; rfl)); intro gb222 hg w18 hbox hb; have n0_ := kB BK216 hb; have n1_ := kB BK217 hb; have n2_ := kB BK218 hb; have n3_ := lB hb; have n4_ := Aside0.mk (hbox); have n5_ := sA hg; have n6_ := sA hg; have n7_ := nA hg BK216; have n8_ := nB hg BK216; have n9_ := nA hg BK217; have n10_ := nB hg BK217; have n11_ := nA hg BK218; have n12_ := nB hg BK218; clear BK216; clear BK217; clear BK218; clear HB; have BK216 := n0_; have BK217 := n1_; have BK218 := n2_; have HB := n3_; have BK222 := n4_; have GW222 := n5_; have GE222 := n6_; have NB216_222 := n7_; have NB222_216 := n8_; have NB217_222 := n9_; have NB222_217 := n10_; have NB218_222 := n11_; have NB222_218 := n12_; clear n0_ n1_ n2_ n3_ n4_ n5_ n6_ n7_ n8_ n9_ n10_ n11_ n12_; clear hb hbox hg; have hnb19 := NB222_216.out; have hnc19 := NB216_222.out; have hnb20 := NB222_217.out; have hnc20 := NB217_222.out; have hnb21 := NB222_218.out; have hnc21 := NB218_222.out; obtain ⟨hcz22_0, hcz22_1, hfz22_0, hfz22_1⟩ := cz2 BK222; obtain ⟨hcz23_0, hcz23_1, hcz23_2, hcz23_3, hfz23_0, hfz23_1, hfz23_2, hfz23_3⟩ := cz4 BK216) | ((with_reducible refine gate_dst (N := 13) rfl ?_); refine box_event ?hg (N := 13) ?hd (cs := #[.int .i64 0, .int .i64 0]) (t := 22) ?hr ?_; (case hd => rfl); (case hg => rfl); (case hr => first | (go_simp; done) | (go_simp; rfl)); intro gb223 hg w24 hbox hb; have n0_ := Aside0.mk (blk_below (g := gb216) (o := .cells #[.int .i64 a1_0, .int .i64 a1_1, .int .i64 a1_2, .int .i64 a1_3] 26 (0, 0)) (bkF BK216) hb); have n1_ := Aside0.mk (blk_below (g := gb217) (o := .cells #[.int .i64 a2_0, .int .i64 a2_1, .int .i64 a2_2] 39 (0, 0)) (bkF BK217) hb); have n2_ := Aside0.mk (blk_below (g := gb218) (o := .cells #[.int .i64 0, .int .i64 0, .int .i64 0] 39 (0, 0)) (bkF BK218) hb); have n3_ := Aside0.mk (blk_below (g := gb222) (o := .cells #[.int .i64 (wrap64 (a1_0 * t219)), .int .i64 (wrap64 (a1_2 * t219))] 22 (0, 0)) (by refine dr ?_; refine blk_put (cs := #[.int .i64 (wrap64 (a1_0 * t219)), .int .i64 0]) ?_ 1 _ rfl; refine dr ?_; refine blk_put (cs := #[.int .i64 0, .int .i64 0]) ?_ 0 _ rfl; exact bkA BK222) hb); have n4_ := lB hb; have n5_ := Aside0.mk (hbox); have n6_ := sA hg; have n7_ := sA hg; have n8_ := Aside0.mk ((by rw [hg]; exact Nat.ne_of_lt (blk_lt (g := gb216) (o := .cells #[.int .i64 a1_0, .int .i64 a1_1, .int .i64 a1_2, .int .i64 a1_3] 26 (0, 0)) (bkF BK216)) : gb216 ≠ gb223)); have n9_ := Aside0.mk ((by rw [hg]; exact Nat.ne_of_gt (blk_lt (g := gb216) (o := .cells #[.int .i64 a1_0, .int .i64 a1_1, .int .i64 a1_2, .int .i64 a1_3] 26 (0, 0)) (bkF BK216)) : gb223 ≠ gb216)); have n10_ := Aside0.mk ((by rw [hg]; exact Nat.ne_of_lt (blk_lt (g := gb217) (o := .cells #[.int .i64 a2_0, .int .i64 a2_1, .int .i64 a2_2] 39 (0, 0)) (bkF BK217)) : gb217 ≠ gb223)); have n11_ := Aside0.mk ((by rw [hg]; exact Nat.ne_of_gt (blk_lt (g := gb217) (o := .cells #[.int .i64 a2_0, .int .i64 a2_1, .int .i64 a2_2] 39 (0, 0)) (bkF BK217)) : gb223 ≠ gb217)); have n12_ := Aside0.mk ((by rw [hg]; exact Nat.ne_of_lt (blk_lt (g := gb218) (o := .cells #[.int .i64 0, .int .i64 0, .int .i64 0] 39 (0, 0)) (bkF BK218)) : gb218 ≠ gb223)); have n13_ := Aside0.mk ((by rw [hg]; exact Nat.ne_of_gt (blk_lt (g := gb218) (o := .cells #[.int .i64 0, .int .i64 0, .int .i64 0] 39 (0, 0)) (bkF BK218)) : gb223 ≠ gb218)); have n14_ := Aside0.mk ((by rw [hg]; exact Nat.ne_of_lt (blk_lt (g := gb222) (o := .cells #[.int .i64 (wrap64 (a1_0 * t219)), .int .i64 (wrap64 (a1_2 * t219))] 22 (0, 0)) (by refine dr ?_; refine blk_put (cs := #[.int .i64 (wrap64 (a1_0 * t219)), .int .i64 0]) ?_ 1 _ rfl; refine dr ?_; refine blk_put (cs := #[.int .i64 0, .int .i64 0]) ?_ 0 _ rfl; exact bkA BK222)) : gb222 ≠ gb223)); have n15_ := Aside0.mk ((by rw [hg]; exact Nat.ne_of_gt (blk_lt (g := gb222) (o := .cells #[.int .i64 (wrap64 (a1_0 * t219)), .int .i64 (wrap64 (a1_2 * t219))] 22 (0, 0)) (by refine dr ?_; refine blk_put (cs := #[.int .i64 (wrap64 (a1_0 * t219)), .int .i64 0]) ?_ 1 _ rfl; refine dr ?_; refine blk_put (cs := #[.int .i64 0, .int .i64 0]) ?_ 0 _ rfl; exact bkA BK222)) : gb223 ≠ gb222)); clear BK216; clear BK217; clear BK218; clear BK222; clear HB; have BK216 := n0_; have BK217 := n1_; have BK218 := n2_; have BK222 := n3_; have HB := n4_; have BK223 := n5_; have GW223 := n6_; have GE223 := n7_; have NB216_223 := n8_; have NB223_216 := n9_; have NB217_223 := n10_; have NB223_217 := n11_; have NB218_223 := n12_; have NB223_218 := n13_; have NB222_223 := n14_; have NB223_222 := n15_; clear n0_ n1_ n2_ n3_ n4_ n5_ n6_ n7_ n8_ n9_ n10_ n11_ n12_ n13_ n14_ n15_; clear hb hbox hg; have hnb25 := NB223_216.out; have hnc25 := NB216_223.out; have hnb26 := NB223_217.out; have hnc26 := NB217_223.out; have hnb27 := NB223_218.out; have hnc27 := NB218_223.out; have hnb28 := NB223_222.out; have hnc28 := NB222_223.out; obtain ⟨hcz29_0, hcz29_1, hfz29_0, hfz29_1⟩ := cz2 BK223))
 (try simp only [Act.put, List.setIfInBounds_toArray, List.set_cons_zero, List.set_cons_succ])
 go_cut [91] (fun v91 wc => ∃ (kq : Nat) (x91_7 : Bool), v91 = .bool x91_7 ∧ Aside0 (spec_l04Move.j0 kq a0 ji4 x91_7 a1_0 a1_1 a1_2 a1_3 a2_0 a2_1 a2_2 (wrap64 (a1_0 * t219)) (wrap64 (a1_2 * t219)) (wrap64 ((wrap64 (a1_0 * (wrap64 (a2_1 * t221)))) + (wrap64 (a1_1 * t220)))) (wrap64 ((wrap64 (a1_2 * (wrap64 (a2_1 * t221)))) + (wrap64 (a1_3 * t220)))) = some (r1, r2, r3, r4)) ∧ Aside0 (kq ≤ k) ∧ Aside0 (wc.heap[gb216]? = some (.cells #[.int .i64 a1_0, .int .i64 a1_1, .int .i64 a1_2, .int .i64 a1_3] 26 (0, 0))) ∧ Aside0 (wc.heap[gb217]? = some (.cells #[.int .i64 a2_0, .int .i64 a2_1, .int .i64 a2_2] 39 (0, 0))) ∧ Aside0 (wc.heap[gb218]? = some (.cells #[.int .i64 0, .int .i64 0, .int .i64 0] 39 (0, 0))) ∧ Aside0 (wc.heap[gb222]? = some (.cells #[.int .i64 (wrap64 (a1_0 * t219)), .int .i64 (wrap64 (a1_2 * t219))] 22 (0, 0))) ∧ Aside0 (wc.heap[gb223]? = some (.cells #[.int .i64 (wrap64 ((wrap64 (a1_0 * (wrap64 (a2_1 * t221)))) + (wrap64 (a1_1 * t220)))), .int .i64 (wrap64 ((wrap64 (a1_2 * (wrap64 (a2_1 * t221)))) + (wrap64 (a1_3 * t220))))] 22 (0, 0))) ∧ Aside0 (Below w.heap.size w wc))
 case first =>
  have H := HC8.out
  clear HC8
  by_cases c30 : (wrap64 ((wrap64 (a1_2 * (wrap64 (a2_1 * t221)))) + (wrap64 (a1_3 * t220)))) = 0
  ·
   rw [if_pos c30] at H
   have c30b0 : ((wrap64 ((wrap64 (a1_2 * (wrap64 (a2_1 * t221)))) + (wrap64 (a1_3 * t220)))) == 0) = true := beq_iff_eq.mpr c30
   have c30b1 : ((wrap64 ((wrap64 (a1_2 * (wrap64 (a2_1 * t221)))) + (wrap64 (a1_3 * t220)))) != 0) = false := bne_eq_false_iff_eq.mpr c30
   clear c30
   (first | rw [c30b0] | (simp only [i64_w, i32_w]; rw [c30b0]) | skip)
   have H' := Aside0.mk H
   clear H
   try go_wp2
   have n0_ : Aside0 (((w24.setCell ⟨gb223, 0, none⟩ (.int .i64 (wrap64 ((wrap64 (a1_0 * (wrap64 (a2_1 * t221)))) + (wrap64 (a1_1 * t220)))))).setCell ⟨gb223, 1, none⟩ (.int .i64 (wrap64 ((wrap64 (a1_2 * (wrap64 (a2_1 * t221)))) + (wrap64 (a1_3 * t220)))))).heap[gb216]? = some (.cells #[.int .i64 a1_0, .int .i64 a1_1, .int .i64 a1_2, .int .i64 a1_3] 26 (0, 0))) := ⟨bkF BK216⟩
   have n1_ : Aside0 (((w24.setCell ⟨gb223, 0, none⟩ (.int .i64 (wrap64 ((wrap64 (a1_0 * (wrap64 (a2_1 * t221)))) + (wrap64 (a1_1 * t220)))))).setCell ⟨gb223, 1, none⟩ (.int .i64 (wrap64 ((wrap64 (a1_2 * (wrap64 (a2_1 * t221)))) + (wrap64 (a1_3 * t220)))))).heap[gb217]? = some (.cells #[.int .i64 a2_0, .int .i64 a2_1, .int .i64 a2_2] 39 (0, 0))) := ⟨bkF BK217⟩
   have n2_ : Aside0 (((w24.setCell ⟨gb223, 0, none⟩ (.int .i64 (wrap64 ((wrap64 (a1_0 * (wrap64 (a2_1 * t221)))) + (wrap64 (a1_1 * t220)))))).setCell ⟨gb223, 1, none⟩ (.int .i64 (wrap64 ((wrap64 (a1_2 * (wrap64 (a2_1 * t221)))) + (wrap64 (a1_3 * t220)))))).heap[gb218]? = some (.cells #[.int .i64 0, .int .i64 0, .int .i64 0] 39 (0, 0))) := ⟨bkF BK218⟩
   have n3_ : Aside0 (((w24.setCell ⟨gb223, 0, none⟩ (.int .i64 (wrap64 ((wrap64 (a1_0 * (wrap64 (a2_1 * t221)))) + (wrap64 (a1_1 * t220)))))).setCell ⟨gb223, 1, none⟩ (.int .i64 (wrap64 ((wrap64 (a1_2 * (wrap64 (a2_1 * t221)))) + (wrap64 (a1_3 * t220)))))).heap[gb222]? = some (.cells #[.int .i64 (wrap64 (a1_0 * t219)), .int .i64 (wrap64 (a1_2 * t219))] 22 (0, 0))) := ⟨bkF BK222⟩
   have n4_ : Aside0 (((w24.setCell ⟨gb223, 0, none⟩ (.int .i64 (wrap64 ((wrap64 (a1_0 * (wrap64 (a2_1 * t221)))) + (wrap64 (a1_1 * t220)))))).setCell ⟨gb223, 1, none⟩ (.int .i64 (wrap64 ((wrap64 (a1_2 * (wrap64 (a2_1 * t221)))) + (wrap64 (a1_3 * t220)))))).heap[gb223]? = some (.cells #[.int .i64 (wrap64 ((wrap64 (a1_0 * (wrap64 (a2_1 * t221)))) + (wrap64 (a1_1 * t220)))), .int .i64 (wrap64 ((wrap64 (a1_2 * (wrap64 (a2_1 * t221)))) + (wrap64 (a1_3 * t220))))] 22 (0, 0))) := ⟨by refine dr ?_; refine blk_put (cs := #[.int .i64 (wrap64 ((wrap64 (a1_0 * (wrap64 (a2_1 * t221)))) + (wrap64 (a1_1 * t220)))), .int .i64 0]) ?_ 1 _ rfl; refine dr ?_; refine blk_put (cs := #[.int .i64 0, .int .i64 0]) ?_ 0 _ rfl; exact bkA BK223⟩
   have n5_ : Aside0 (Below w.heap.size w ((w24.setCell ⟨gb223, 0, none⟩ (.int .i64 (wrap64 ((wrap64 (a1_0 * (wrap64 (a2_1 * t221)))) + (wrap64 (a1_1 * t220)))))).setCell ⟨gb223, 1, none⟩ (.int .i64 (wrap64 ((wrap64 (a1_2 * (wrap64 (a2_1 * t221)))) + (wrap64 (a1_3 * t220))))))) := ⟨blA⟩
   (try clear BK216)
   (try clear BK217)
   (try clear BK218)
   (try clear BK222)
   (try clear BK223)
   (try clear HB)
   generalize ((w24.setCell ⟨gb223, 0, none⟩ (.int .i64 (wrap64 ((wrap64 (a1_0 * (wrap64 (a2_1 * t221)))) + (wrap64 (a1_1 * t220)))))).setCell ⟨gb223, 1, none⟩ (.int .i64 (wrap64 ((wrap64 (a1_2 * (wrap64 (a2_1 * t221)))) + (wrap64 (a1_3 * t220)))))) = w31 at n0_ n1_ n2_ n3_ n4_ n5_ ⊢
   have BK216 := n0_
   have BK217 := n1_
   have BK218 := n2_
   have BK222 := n3_
   have BK223 := n4_
   have HB := n5_
   clear n0_ n1_ n2_ n3_ n4_ n5_
   have n0_ := Aside0.mk (blk_drew BK216.out)
   have n1_ := Aside0.mk (blk_drew BK217.out)
   have n2_ := Aside0.mk (blk_drew BK218.out)
   have n3_ := Aside0.mk (blk_drew BK222.out)
   have n4_ := Aside0.mk (blk_drew BK223.out)
   have n5_ := Aside0.mk (below_drew1 HB.out)
   clear BK216
   clear BK217
   clear BK218
   clear BK222
   clear BK223
   clear HB
   have BK216 := n0_
   have BK217 := n1_
   have BK218 := n2_
   have BK222 := n3_
   have BK223 := n4_
   have HB := n5_
   clear n0_ n1_ n2_ n3_ n4_ n5_
   refine start_ (n := 19) (S := fun w' => w'.cell? ⟨gb223, 0, none⟩ = some (.int .i64 (wrap64 ((wrap64 (a1_0 * (wrap64 (a2_1 * t221)))) + (wrap64 (a1_1 * t220))))) ∧ w'.cell? ⟨gb223, 1, none⟩ = some (.int .i64 (wrap64 ((wrap64 (a1_2 * (wrap64 (a2_1 * t221)))) + (wrap64 (a1_3 * t220)))))) (ds := []) #[Z, Z, Z, Z, Z, Z, Z, Z, Z, Z, Z, Z, Z, Z, Z, Z, Z, Z, Z] (by kernel_rfl) rfl rfl ⟨cA BK223 0, cA BK223 1⟩ (fun hHeld => ?_); refine with_tabW spec_l04Move.tab6 spec_l04Move.bits6 (fun HT_ HW_ => ?_)
   generalize w31.drew = w32 at BK216 BK217 BK218 BK222 BK223 HB hHeld ⊢
   refine puA (i := 0) (N := some 73) #[Y, Z, Z, Z, Z, Z, Z, Z, Z, Z, Z, Z, Z, Z, Z, Z, Z, Z, Z] rfl rfl HT_ ?_
   refine take_ (i := 1) (N := some 74) (v := ?_) (a' := ?_) #[Y, Y, Z, Z, Z, Z, Z, Z, Z, Z, Z, Z, Z, Z, Z, Z, Z, Z, Z] rfl rfl (take_ofW HT_.out HW_.out (by kernel_rfl)) (fun _ _ _ h => h) (Or.inl ⟨by rfl, ?_⟩) hHeld ?_ ?_
   rotate_left
   ·
    rintro w' ⟨s0, s1⟩
    go_simp
    with_reducible rfl
   rotate_left
   ·
    simp only [pA]
    rfl
   refine puA (i := 2) (N := some 75) #[Y, Y, Y, Z, Z, Z, Z, Z, Z, Z, Z, Z, Z, Z, Z, Z, Z, Z, Z] rfl rfl HT_ ?_
   refine puA (i := 3) (N := some 76) #[Y, Y, Y, Y, Z, Z, Z, Z, Z, Z, Z, Z, Z, Z, Z, Z, Z, Z, Z] rfl rfl HT_ ?_
   refine pure_ (i := 4) (N := some 77) (v := undef) (a' := ?_) #[Y, Y, Y, Y, Y, Z, Z, Z, Z, Z, Z, Z, Z, Z, Z, Z, Z, Z, Z] rfl rfl (any_of HT_.out (by kernel_rfl)) (fun _ _ _ h => h) (Or.inr ⟨by rfl, rfl⟩) ?_ ?_
   rotate_left
   ·
    simp only [pA]
    rfl
   refine pure_ (i := 5) (N := some 78) (v := undef) (a' := ?_) #[Y, Y, Y, Y, Y, Y, Z, Z, Z, Z, Z, Z, Z, Z, Z, Z, Z, Z, Z] rfl rfl (any_of HT_.out (by kernel_rfl)) (fun _ _ _ h => h) (Or.inr ⟨by rfl, rfl⟩) ?_ ?_
   rotate_left
   ·
    simp only [pA]
    rfl
   refine pure_ (i := 6) (N := some 79) (v := undef) (a' := ?_) #[Y, Y, Y, Y, Y, Y, Y, Z, Z, Z, Z, Z, Z, Z, Z, Z, Z, Z, Z] rfl rfl (any_of HT_.out (by kernel_rfl)) (fun _ _ _ h => h) (Or.inr ⟨by rfl, rfl⟩) ?_ ?_
   rotate_left
   ·
    simp only [pA]
    rfl
   refine pure_ (i := 7) (N := some 80) (v := undef) (a' := ?_) #[Y, Y, Y, Y, Y, Y, Y, Y, Z, Z, Z, Z, Z, Z, Z, Z, Z, Z, Z] rfl rfl (any_of HT_.out (by kernel_rfl)) (fun _ _ _ h => h) (Or.inr ⟨by rfl, rfl⟩) ?_ ?_
   rotate_left
   ·
    simp only [pA]
    rfl
   refine pure_ (i := 8) (N := some 81) (v := undef) (a' := ?_) #[Y, Y, Y, Y, Y, Y, Y, Y, Y, Z, Z, Z, Z, Z, Z, Z, Z, Z, Z] rfl rfl (any_of HT_.out (by kernel_rfl)) (fun _ _ _ h => h) (Or.inr ⟨by rfl, rfl⟩) ?_ ?_
   rotate_left
   ·
    simp only [pA]
    rfl
   refine pure_ (i := 9) (N := some 82) (v := undef) (a' := ?_) #[Y, Y, Y, Y, Y, Y, Y, Y, Y, Y, Z, Z, Z, Z, Z, Z, Z, Z, Z] rfl rfl (any_of HT_.out (by kernel_rfl)) (fun _ _ _ h => h) (Or.inr ⟨by rfl, rfl⟩) ?_ ?_
   rotate_left
   ·
    simp only [pA]
    rfl
   refine pure_ (i := 10) (N := some 83) (v := undef) (a' := ?_) #[Y, Y, Y, Y, Y, Y, Y, Y, Y, Y, Y, Z, Z, Z, Z, Z, Z, Z, Z] rfl rfl (any_of HT_.out (by kernel_rfl)) (fun _ _ _ h => h) (Or.inr ⟨by rfl, rfl⟩) ?_ ?_
   rotate_left
   ·
    simp only [pA]
    rfl
   refine pure_ (i := 11) (N := some 84) (v := undef) (a' := ?_) #[Y, Y, Y, Y, Y, Y, Y, Y, Y, Y, Y, Y, Z, Z, Z, Z, Z, Z, Z] rfl rfl (any_of HT_.out (by kernel_rfl)) (fun _ _ _ h => h) (Or.inr ⟨by rfl, rfl⟩) ?_ ?_
   rotate_left
   ·
    simp only [pA]
    rfl
   refine pure_ (i := 12) (N := some 85) (v := undef) (a' := ?_) #[Y, Y, Y, Y, Y, Y, Y, Y, Y, Y, Y, Y, Y, Z, Z, Z, Z, Z, Z] rfl rfl (any_of HT_.out (by kernel_rfl)) (fun _ _ _ h => h) (Or.inr ⟨by rfl, rfl⟩) ?_ ?_
   rotate_left
   ·
    simp only [pA]
    rfl
   refine pure_ (i := 13) (N := some 86) (v := undef) (a' := ?_) #[Y, Y, Y, Y, Y, Y, Y, Y, Y, Y, Y, Y, Y, Y, Z, Z, Z, Z, Z] rfl rfl (any_of HT_.out (by kernel_rfl)) (fun _ _ _ h => h) (Or.inr ⟨by rfl, rfl⟩) ?_ ?_
   rotate_left
   ·
    simp only [pA]
    rfl
   refine pure_ (i := 14) (N := some 87) (v := undef) (a' := ?_) #[Y, Y, Y, Y, Y, Y, Y, Y, Y, Y, Y, Y, Y, Y, Y, Z, Z, Z, Z] rfl rfl (any_of HT_.out (by kernel_rfl)) (fun _ _ _ h => h) (Or.inr ⟨by rfl, rfl⟩) ?_ ?_
   rotate_left
   ·
    simp only [pA]
    rfl
   refine pure_ (i := 15) (N := some 88) (v := undef) (a' := ?_) #[Y, Y, Y, Y, Y, Y, Y, Y, Y, Y, Y, Y, Y, Y, Y, Y, Z, Z, Z] rfl rfl (any_of HT_.out (by kernel_rfl)) (fun _ _ _ h => h) (Or.inr ⟨by rfl, rfl⟩) ?_ ?_
   rotate_left
   ·
    simp only [pA]
    rfl
   refine pure_ (i := 16) (N := some 89) (v := undef) (a' := ?_) #[Y, Y, Y, Y, Y, Y, Y, Y, Y, Y, Y, Y, Y, Y, Y, Y, Y, Z, Z] rfl rfl (any_of HT_.out (by kernel_rfl)) (fun _ _ _ h => h) (Or.inr ⟨by rfl, rfl⟩) ?_ ?_
   rotate_left
   ·
    simp only [pA]
    rfl
   refine pure_ (i := 17) (N := some 90) (v := undef) (a' := ?_) #[Y, Y, Y, Y, Y, Y, Y, Y, Y, Y, Y, Y, Y, Y, Y, Y, Y, Y, Z] rfl rfl (any_of HT_.out (by kernel_rfl)) (fun _ _ _ h => h) (Or.inr ⟨by rfl, rfl⟩) ?_ ?_
   rotate_left
   ·
    simp only [pA]
    rfl
   refine puA (i := 18) (N := some 91) #[Y, Y, Y, Y, Y, Y, Y, Y, Y, Y, Y, Y, Y, Y, Y, Y, Y, Y, Y] rfl rfl HT_ ?_
   refine done_ (done_of HT_.out (by kernel_rfl)) ?_
   try go_wp2
   go_meet
   case rel => exact ⟨_, (true), hB, H', ⟨by first | omega | exact Nat.le_refl _⟩, ⟨bkA BK216⟩, ⟨bkA BK217⟩, ⟨bkA BK218⟩, ⟨bkA BK222⟩, ⟨bkA BK223⟩, ⟨blA⟩⟩
  ·
   rw [if_neg c30] at H
   have c30b0 : ((wrap64 ((wrap64 (a1_2 * (wrap64 (a2_1 * t221)))) + (wrap64 (a1_3 * t220)))) == 0) = false := beq_eq_false_iff_ne.mpr c30
   have c30b1 : ((wrap64 ((wrap64 (a1_2 * (wrap64 (a2_1 * t221)))) + (wrap64 (a1_3 * t220)))) != 0) = true := bne_iff_ne.mpr c30
   (first | rw [c30b0] | (simp only [i64_w, i32_w]; rw [c30b0]) | skip)
   by_cases c33 : (wrap64 (a1_2 * t219)) = 0
   ·
    rw [if_pos c33] at H
    have c33b0 : ((wrap64 (a1_2 * t219)) == 0) = true := beq_iff_eq.mpr c33
    have c33b1 : ((wrap64 (a1_2 * t219)) != 0) = false := bne_eq_false_iff_eq.mpr c33
    clear c33
    have H' := Aside0.mk H
    clear H
    try go_wp2
    have n0_ : Aside0 (((w24.setCell ⟨gb223, 0, none⟩ (.int .i64 (wrap64 ((wrap64 (a1_0 * (wrap64 (a2_1 * t221)))) + (wrap64 (a1_1 * t220)))))).setCell ⟨gb223, 1, none⟩ (.int .i64 (wrap64 ((wrap64 (a1_2 * (wrap64 (a2_1 * t221)))) + (wrap64 (a1_3 * t220)))))).heap[gb216]? = some (.cells #[.int .i64 a1_0, .int .i64 a1_1, .int .i64 a1_2, .int .i64 a1_3] 26 (0, 0))) := ⟨bkF BK216⟩
    have n1_ : Aside0 (((w24.setCell ⟨gb223, 0, none⟩ (.int .i64 (wrap64 ((wrap64 (a1_0 * (wrap64 (a2_1 * t221)))) + (wrap64 (a1_1 * t220)))))).setCell ⟨gb223, 1, none⟩ (.int .i64 (wrap64 ((wrap64 (a1_2 * (wrap64 (a2_1 * t221)))) + (wrap64 (a1_3 * t220)))))).heap[gb217]? = some (.cells #[.int .i64 a2_0, .int .i64 a2_1, .int .i64 a2_2] 39 (0, 0))) := ⟨bkF BK217⟩
    have n2_ : Aside0 (((w24.setCell ⟨gb223, 0, none⟩ (.int .i64 (wrap64 ((wrap64 (a1_0 * (wrap64 (a2_1 * t221)))) + (wrap64 (a1_1 * t220)))))).setCell ⟨gb223, 1, none⟩ (.int .i64 (wrap64 ((wrap64 (a1_2 * (wrap64 (a2_1 * t221)))) + (wrap64 (a1_3 * t220)))))).heap[gb218]? = some (.cells #[.int .i64 0, .int .i64 0, .int .i64 0] 39 (0, 0))) := ⟨bkF BK218⟩
    have n3_ : Aside0 (((w24.setCell ⟨gb223, 0, none⟩ (.int .i64 (wrap64 ((wrap64 (a1_0 * (wrap64 (a2_1 * t221)))) + (wrap64 (a1_1 * t220)))))).setCell ⟨gb223, 1, none⟩ (.int .i64 (wrap64 ((wrap64 (a1_2 * (wrap64 (a2_1 * t221)))) + (wrap64 (a1_3 * t220)))))).heap[gb222]? = some (.cells #[.int .i64 (wrap64 (a1_0 * t219)), .int .i64 (wrap64 (a1_2 * t219))] 22 (0, 0))) := ⟨bkF BK222⟩
    have n4_ : Aside0 (((w24.setCell ⟨gb223, 0, none⟩ (.int .i64 (wrap64 ((wrap64 (a1_0 * (wrap64 (a2_1 * t221)))) + (wrap64 (a1_1 * t220)))))).setCell ⟨gb223, 1, none⟩ (.int .i64 (wrap64 ((wrap64 (a1_2 * (wrap64 (a2_1 * t221)))) + (wrap64 (a1_3 * t220)))))).heap[gb223]? = some (.cells #[.int .i64 (wrap64 ((wrap64 (a1_0 * (wrap64 (a2_1 * t221)))) + (wrap64 (a1_1 * t220)))), .int .i64 (wrap64 ((wrap64 (a1_2 * (wrap64 (a2_1 * t221)))) + (wrap64 (a1_3 * t220))))] 22 (0, 0))) := ⟨by refine dr ?_; refine blk_put (cs := #[.int .i64 (wrap64 ((wrap64 (a1_0 * (wrap64 (a2_1 * t221)))) + (wrap64 (a1_1 * t220)))), .int .i64 0]) ?_ 1 _ rfl; refine dr ?_; refine blk_put (cs := #[.int .i64 0, .int .i64 0]) ?_ 0 _ rfl; exact bkA BK223⟩
    have n5_ : Aside0 (Below w.heap.size w ((w24.setCell ⟨gb223, 0, none⟩ (.int .i64 (wrap64 ((wrap64 (a1_0 * (wrap64 (a2_1 * t221)))) + (wrap64 (a1_1 * t220)))))).setCell ⟨gb223, 1, none⟩ (.int .i64 (wrap64 ((wrap64 (a1_2 * (wrap64 (a2_1 * t221)))) + (wrap64 (a1_3 * t220))))))) := ⟨blA⟩
    (try clear BK216)
    (try clear BK217)
    (try clear BK218)
    (try clear BK222)
    (try clear BK223)
    (try clear HB)
    generalize ((w24.setCell ⟨gb223, 0, none⟩ (.int .i64 (wrap64 ((wrap64 (a1_0 * (wrap64 (a2_1 * t221)))) + (wrap64 (a1_1 * t220)))))).setCell ⟨gb223, 1, none⟩ (.int .i64 (wrap64 ((wrap64 (a1_2 * (wrap64 (a2_1 * t221)))) + (wrap64 (a1_3 * t220)))))) = w34 at n0_ n1_ n2_ n3_ n4_ n5_ ⊢
    have BK216 := n0_
    have BK217 := n1_
    have BK218 := n2_
    have BK222 := n3_
    have BK223 := n4_
    have HB := n5_
    clear n0_ n1_ n2_ n3_ n4_ n5_
    have n0_ := Aside0.mk (blk_drew BK216.out)
    have n1_ := Aside0.mk (blk_drew BK217.out)
    have n2_ := Aside0.mk (blk_drew BK218.out)
    have n3_ := Aside0.mk (blk_drew BK222.out)
    have n4_ := Aside0.mk (blk_drew BK223.out)
    have n5_ := Aside0.mk (below_drew1 HB.out)
    clear BK216
    clear BK217
    clear BK218
    clear BK222
    clear BK223
    clear HB
    have BK216 := n0_
    have BK217 := n1_
    have BK218 := n2_
    have BK222 := n3_
    have BK223 := n4_
    have HB := n5_
    clear n0_ n1_ n2_ n3_ n4_ n5_
    refine start_ (n := 19) (S := fun w' => w'.cell? ⟨gb223, 0, none⟩ = some (.int .i64 (wrap64 ((wrap64 (a1_0 * (wrap64 (a2_1 * t221)))) + (wrap64 (a1_1 * t220))))) ∧ w'.cell? ⟨gb223, 1, none⟩ = some (.int .i64 (wrap64 ((wrap64 (a1_2 * (wrap64 (a2_1 * t221)))) + (wrap64 (a1_3 * t220))))) ∧ w'.cell? ⟨gb222, 0, none⟩ = some (.int .i64 (wrap64 (a1_0 * t219))) ∧ w'.cell? ⟨gb222, 1, none⟩ = some (.int .i64 (wrap64 (a1_2 * t219)))) (ds := []) #[Z, Z, Z, Z, Z, Z, Z, Z, Z, Z, Z, Z, Z, Z, Z, Z, Z, Z, Z] (by kernel_rfl) rfl rfl ⟨cA BK223 0, cA BK223 1, cA BK222 0, cA BK222 1⟩ (fun hHeld => ?_); refine with_tabW spec_l04Move.tab6 spec_l04Move.bits6 (fun HT_ HW_ => ?_)
    generalize w34.drew = w35 at BK216 BK217 BK218 BK222 BK223 HB hHeld ⊢
    refine puA (i := 0) (N := some 73) #[Y, Z, Z, Z, Z, Z, Z, Z, Z, Z, Z, Z, Z, Z, Z, Z, Z, Z, Z] rfl rfl HT_ ?_
    refine take_ (i := 1) (N := some 74) (v := ?_) (a' := ?_) #[Y, Y, Z, Z, Z, Z, Z, Z, Z, Z, Z, Z, Z, Z, Z, Z, Z, Z, Z] rfl rfl (take_ofW HT_.out HW_.out (by kernel_rfl)) (fun _ _ _ h => h) (Or.inl ⟨by rfl, ?_⟩) hHeld ?_ ?_
    rotate_left
    ·
     rintro w' ⟨s0, s1, s2, s3⟩
     go_simp
     with_reducible rfl
    rotate_left
    ·
     simp only [pA]
     rfl
    refine puA (i := 2) (N := some 75) #[Y, Y, Y, Z, Z, Z, Z, Z, Z, Z, Z, Z, Z, Z, Z, Z, Z, Z, Z] rfl rfl HT_ ?_
    refine puA (i := 3) (N := some 76) #[Y, Y, Y, Y, Z, Z, Z, Z, Z, Z, Z, Z, Z, Z, Z, Z, Z, Z, Z] rfl rfl HT_ ?_
    refine puA (i := 4) (N := some 77) #[Y, Y, Y, Y, Y, Z, Z, Z, Z, Z, Z, Z, Z, Z, Z, Z, Z, Z, Z] rfl rfl HT_ ?_
    refine take_ (i := 5) (N := some 78) (v := ?_) (a' := ?_) #[Y, Y, Y, Y, Y, Y, Z, Z, Z, Z, Z, Z, Z, Z, Z, Z, Z, Z, Z] rfl rfl (take_ofW HT_.out HW_.out (by kernel_rfl)) (fun _ _ _ h => h) (Or.inl ⟨by rfl, ?_⟩) hHeld ?_ ?_
    rotate_left
    ·
     rintro w' ⟨s0, s1, s2, s3⟩
     go_simp
     with_reducible rfl
    rotate_left
    ·
     simp only [pA]
     rfl
    refine puA (i := 6) (N := some 79) #[Y, Y, Y, Y, Y, Y, Y, Z, Z, Z, Z, Z, Z, Z, Z, Z, Z, Z, Z] rfl rfl HT_ ?_
    refine puA (i := 7) (N := some 80) #[Y, Y, Y, Y, Y, Y, Y, Y, Z, Z, Z, Z, Z, Z, Z, Z, Z, Z, Z] rfl rfl HT_ ?_
    refine pure_ (i := 8) (N := some 81) (v := undef) (a' := ?_) #[Y, Y, Y, Y, Y, Y, Y, Y, Y, Z, Z, Z, Z, Z, Z, Z, Z, Z, Z] rfl rfl (any_of HT_.out (by kernel_rfl)) (fun _ _ _ h => h) (Or.inr ⟨by rfl, rfl⟩) ?_ ?_
    rotate_left
    ·
     simp only [pA]
     rfl
    refine pure_ (i := 9) (N := some 82) (v := undef) (a' := ?_) #[Y, Y, Y, Y, Y, Y, Y, Y, Y, Y, Z, Z, Z, Z, Z, Z, Z, Z, Z] rfl rfl (any_of HT_.out (by kernel_rfl)) (fun _ _ _ h => h) (Or.inr ⟨by rfl, rfl⟩) ?_ ?_
    rotate_left
    ·
     simp only [pA]
     rfl
    refine pure_ (i := 10) (N := some 83) (v := undef) (a' := ?_) #[Y, Y, Y, Y, Y, Y, Y, Y, Y, Y, Y, Z, Z, Z, Z, Z, Z, Z, Z] rfl rfl (any_of HT_.out (by kernel_rfl)) (fun _ _ _ h => h) (Or.inr ⟨by rfl, rfl⟩) ?_ ?_
    rotate_left
    ·
     simp only [pA]
     rfl
    refine pure_ (i := 11) (N := some 84) (v := undef) (a' := ?_) #[Y, Y, Y, Y, Y, Y, Y, Y, Y, Y, Y, Y, Z, Z, Z, Z, Z, Z, Z] rfl rfl (any_of HT_.out (by kernel_rfl)) (fun _ _ _ h => h) (Or.inr ⟨by rfl, rfl⟩) ?_ ?_
    rotate_left
    ·
     simp only [pA]
     rfl
    refine pure_ (i := 12) (N := some 85) (v := undef) (a' := ?_) #[Y, Y, Y, Y, Y, Y, Y, Y, Y, Y, Y, Y, Y, Z, Z, Z, Z, Z, Z] rfl rfl (any_of HT_.out (by kernel_rfl)) (fun _ _ _ h => h) (Or.inr ⟨by rfl, rfl⟩) ?_ ?_
    rotate_left
    ·
     simp only [pA]
     rfl
    refine pure_ (i := 13) (N := some 86) (v := undef) (a' := ?_) #[Y, Y, Y, Y, Y, Y, Y, Y, Y, Y, Y, Y, Y, Y, Z, Z, Z, Z, Z] rfl rfl (any_of HT_.out (by kernel_rfl)) (fun _ _ _ h => h) (Or.inr ⟨by rfl, rfl⟩) ?_ ?_
    rotate_left
    ·
     simp only [pA]
     rfl
    refine pure_ (i := 14) (N := some 87) (v := undef) (a' := ?_) #[Y, Y, Y, Y, Y, Y, Y, Y, Y, Y, Y, Y, Y, Y, Y, Z, Z, Z, Z] rfl rfl (any_of HT_.out (by kernel_rfl)) (fun _ _ _ h => h) (Or.inr ⟨by rfl, rfl⟩) ?_ ?_
    rotate_left
    ·
     simp only [pA]
     rfl
    refine pure_ (i := 15) (N := some 88) (v := undef) (a' := ?_) #[Y, Y, Y, Y, Y, Y, Y, Y, Y, Y, Y, Y, Y, Y, Y, Y, Z, Z, Z] rfl rfl (any_of HT_.out (by kernel_rfl)) (fun _ _ _ h => h) (Or.inr ⟨by rfl, rfl⟩) ?_ ?_
    rotate_left
    ·
     simp only [pA]
     rfl
    refine pure_ (i := 16) (N := some 89) (v := undef) (a' := ?_) #[Y, Y, Y, Y, Y, Y, Y, Y, Y, Y, Y, Y, Y, Y, Y, Y, Y, Z, Z] rfl rfl (any_of HT_.out (by kernel_rfl)) (fun _ _ _ h => h) (Or.inr ⟨by rfl, rfl⟩) ?_ ?_
    rotate_left
    ·
     simp only [pA]
     rfl
    refine puA (i := 17) (N := some 90) #[Y, Y, Y, Y, Y, Y, Y, Y, Y, Y, Y, Y, Y, Y, Y, Y, Y, Y, Z] rfl rfl HT_ ?_
    refine puA (i := 18) (N := some 91) #[Y, Y, Y, Y, Y, Y, Y, Y, Y, Y, Y, Y, Y, Y, Y, Y, Y, Y, Y] rfl rfl HT_ ?_
    refine done_ (done_of HT_.out (by kernel_rfl)) ?_
    try go_wp2
    go_meet
    case rel => exact ⟨_, (false), hB, H', ⟨by first | omega | exact Nat.le_refl _⟩, ⟨bkA BK216⟩, ⟨bkA BK217⟩, ⟨bkA BK218⟩, ⟨bkA BK222⟩, ⟨bkA BK223⟩, ⟨blA⟩⟩
   ·
    rw [if_neg c33] at H
    have c33b0 : ((wrap64 (a1_2 * t219)) == 0) = false := beq_eq_false_iff_ne.mpr c33
    have c33b1 : ((wrap64 (a1_2 * t219)) != 0) = true := bne_iff_ne.mpr c33
    replace H := bS H
    obtain ⟨t224, A36, H⟩ := H
    try dsimp only at H
    replace H := bS H
    obtain ⟨t225, A37, H⟩ := H
    try dsimp only at H
    have H' := Aside0.mk H
    clear H
    try go_wp2
    have n0_ : Aside0 (((w24.setCell ⟨gb223, 0, none⟩ (.int .i64 (wrap64 ((wrap64 (a1_0 * (wrap64 (a2_1 * t221)))) + (wrap64 (a1_1 * t220)))))).setCell ⟨gb223, 1, none⟩ (.int .i64 (wrap64 ((wrap64 (a1_2 * (wrap64 (a2_1 * t221)))) + (wrap64 (a1_3 * t220)))))).heap[gb216]? = some (.cells #[.int .i64 a1_0, .int .i64 a1_1, .int .i64 a1_2, .int .i64 a1_3] 26 (0, 0))) := ⟨bkF BK216⟩
    have n1_ : Aside0 (((w24.setCell ⟨gb223, 0, none⟩ (.int .i64 (wrap64 ((wrap64 (a1_0 * (wrap64 (a2_1 * t221)))) + (wrap64 (a1_1 * t220)))))).setCell ⟨gb223, 1, none⟩ (.int .i64 (wrap64 ((wrap64 (a1_2 * (wrap64 (a2_1 * t221)))) + (wrap64 (a1_3 * t220)))))).heap[gb217]? = some (.cells #[.int .i64 a2_0, .int .i64 a2_1, .int .i64 a2_2] 39 (0, 0))) := ⟨bkF BK217⟩
    have n2_ : Aside0 (((w24.setCell ⟨gb223, 0, none⟩ (.int .i64 (wrap64 ((wrap64 (a1_0 * (wrap64 (a2_1 * t221)))) + (wrap64 (a1_1 * t220)))))).setCell ⟨gb223, 1, none⟩ (.int .i64 (wrap64 ((wrap64 (a1_2 * (wrap64 (a2_1 * t221)))) + (wrap64 (a1_3 * t220)))))).heap[gb218]? = some (.cells #[.int .i64 0, .int .i64 0, .int .i64 0] 39 (0, 0))) := ⟨bkF BK218⟩
    have n3_ : Aside0 (((w24.setCell ⟨gb223, 0, none⟩ (.int .i64 (wrap64 ((wrap64 (a1_0 * (wrap64 (a2_1 * t221)))) + (wrap64 (a1_1 * t220)))))).setCell ⟨gb223, 1, none⟩ (.int .i64 (wrap64 ((wrap64 (a1_2 * (wrap64 (a2_1 * t221)))) + (wrap64 (a1_3 * t220)))))).heap[gb222]? = some (.cells #[.int .i64 (wrap64 (a1_0 * t219)), .int .i64 (wrap64 (a1_2 * t219))] 22 (0, 0))) := ⟨bkF BK222⟩
    have n4_ : Aside0 (((w24.setCell ⟨gb223, 0, none⟩ (.int .i64 (wrap64 ((wrap64 (a1_0 * (wrap64 (a2_1 * t221)))) + (wrap64 (a1_1 * t220)))))).setCell ⟨gb223, 1, none⟩ (.int .i64 (wrap64 ((wrap64 (a1_2 * (wrap64 (a2_1 * t221)))) + (wrap64 (a1_3 * t220)))))).heap[gb223]? = some (.cells #[.int .i64 (wrap64 ((wrap64 (a1_0 * (wrap64 (a2_1 * t221)))) + (wrap64 (a1_1 * t220)))), .int .i64 (wrap64 ((wrap64 (a1_2 * (wrap64 (a2_1 * t221)))) + (wrap64 (a1_3 * t220))))] 22 (0, 0))) := ⟨by refine dr ?_; refine blk_put (cs := #[.int .i64 (wrap64 ((wrap64 (a1_0 * (wrap64 (a2_1 * t221)))) + (wrap64 (a1_1 * t220)))), .int .i64 0]) ?_ 1 _ rfl; refine dr ?_; refine blk_put (cs := #[.int .i64 0, .int .i64 0]) ?_ 0 _ rfl; exact bkA BK223⟩
    have n5_ : Aside0 (Below w.heap.size w ((w24.setCell ⟨gb223, 0, none⟩ (.int .i64 (wrap64 ((wrap64 (a1_0 * (wrap64 (a2_1 * t221)))) + (wrap64 (a1_1 * t220)))))).setCell ⟨gb223, 1, none⟩ (.int .i64 (wrap64 ((wrap64 (a1_2 * (wrap64 (a2_1 * t221)))) + (wrap64 (a1_3 * t220))))))) := ⟨blA⟩
    (try clear BK216)
    (try clear BK217)
    (try clear BK218)
    (try clear BK222)
    (try clear BK223)
    (try clear HB)
    generalize ((w24.setCell ⟨gb223, 0, none⟩ (.int .i64 (wrap64 ((wrap64 (a1_0 * (wrap64 (a2_1 * t221)))) + (wrap64 (a1_1 * t220)))))).setCell ⟨gb223, 1, none⟩ (.int .i64 (wrap64 ((wrap64 (a1_2 * (wrap64 (a2_1 * t221)))) + (wrap64 (a1_3 * t220)))))) = w38 at n0_ n1_ n2_ n3_ n4_ n5_ ⊢
    have BK216 := n0_
    have BK217 := n1_
    have BK218 := n2_
    have BK222 := n3_
    have BK223 := n4_
    have HB := n5_
    clear n0_ n1_ n2_ n3_ n4_ n5_
    have n0_ := Aside0.mk (blk_drew BK216.out)
    have n1_ := Aside0.mk (blk_drew BK217.out)
    have n2_ := Aside0.mk (blk_drew BK218.out)
    have n3_ := Aside0.mk (blk_drew BK222.out)
    have n4_ := Aside0.mk (blk_drew BK223.out)
    have n5_ := Aside0.mk (below_drew1 HB.out)
    clear BK216
    clear BK217
    clear BK218
    clear BK222
    clear BK223
    clear HB
    have BK216 := n0_
    have BK217 := n1_
    have BK218 := n2_
    have BK222 := n3_
    have BK223 := n4_
    have HB := n5_
    clear n0_ n1_ n2_ n3_ n4_ n5_
    refine start_ (n := 19) (S := fun w' => w'.cell? ⟨gb223, 0, none⟩ = some (.int .i64 (wrap64 ((wrap64 (a1_0 * (wrap64 (a2_1 * t221)))) + (wrap64 (a1_1 * t220))))) ∧ w'.cell? ⟨gb223, 1, none⟩ = some (.int .i64 (wrap64 ((wrap64 (a1_2 * (wrap64 (a2_1 * t221)))) + (wrap64 (a1_3 * t220))))) ∧ w'.cell? ⟨gb222, 0, none⟩ = some (.int .i64 (wrap64 (a1_0 * t219))) ∧ w'.cell? ⟨gb222, 1, none⟩ = some (.int .i64 (wrap64 (a1_2 * t219)))) (ds := []) #[Z, Z, Z, Z, Z, Z, Z, Z, Z, Z, Z, Z, Z, Z, Z, Z, Z, Z, Z] (by kernel_rfl) rfl rfl ⟨cA BK223 0, cA BK223 1, cA BK222 0, cA BK222 1⟩ (fun hHeld => ?_); refine with_tabW spec_l04Move.tab6 spec_l04Move.bits6 (fun HT_ HW_ => ?_)
    generalize w38.drew = w39 at BK216 BK217 BK218 BK222 BK223 HB hHeld ⊢
    refine puA (i := 0) (N := some 73) #[Y, Z, Z, Z, Z, Z, Z, Z, Z, Z, Z, Z, Z, Z, Z, Z, Z, Z, Z] rfl rfl HT_ ?_
    refine take_ (i := 1) (N := some 74) (v := ?_) (a' := ?_) #[Y, Y, Z, Z, Z, Z, Z, Z, Z, Z, Z, Z, Z, Z, Z, Z, Z, Z, Z] rfl rfl (take_ofW HT_.out HW_.out (by kernel_rfl)) (fun _ _ _ h => h) (Or.inl ⟨by rfl, ?_⟩) hHeld ?_ ?_
    rotate_left
    ·
     rintro w' ⟨s0, s1, s2, s3⟩
     go_simp
     with_reducible rfl
    rotate_left
    ·
     simp only [pA]
     rfl
    refine puA (i := 2) (N := some 75) #[Y, Y, Y, Z, Z, Z, Z, Z, Z, Z, Z, Z, Z, Z, Z, Z, Z, Z, Z] rfl rfl HT_ ?_
    refine puA (i := 3) (N := some 76) #[Y, Y, Y, Y, Z, Z, Z, Z, Z, Z, Z, Z, Z, Z, Z, Z, Z, Z, Z] rfl rfl HT_ ?_
    refine puA (i := 4) (N := some 77) #[Y, Y, Y, Y, Y, Z, Z, Z, Z, Z, Z, Z, Z, Z, Z, Z, Z, Z, Z] rfl rfl HT_ ?_
    refine take_ (i := 5) (N := some 78) (v := ?_) (a' := ?_) #[Y, Y, Y, Y, Y, Y, Z, Z, Z, Z, Z, Z, Z, Z, Z, Z, Z, Z, Z] rfl rfl (take_ofW HT_.out HW_.out (by kernel_rfl)) (fun _ _ _ h => h) (Or.inl ⟨by rfl, ?_⟩) hHeld ?_ ?_
    rotate_left
    ·
     rintro w' ⟨s0, s1, s2, s3⟩
     go_simp
     with_reducible rfl
    rotate_left
    ·
     simp only [pA]
     rfl
    refine puA (i := 6) (N := some 79) #[Y, Y, Y, Y, Y, Y, Y, Z, Z, Z, Z, Z, Z, Z, Z, Z, Z, Z, Z] rfl rfl HT_ ?_
    refine puA (i := 7) (N := some 80) #[Y, Y, Y, Y, Y, Y, Y, Y, Z, Z, Z, Z, Z, Z, Z, Z, Z, Z, Z] rfl rfl HT_ ?_
    refine puA (i := 8) (N := some 81) #[Y, Y, Y, Y, Y, Y, Y, Y, Y, Z, Z, Z, Z, Z, Z, Z, Z, Z, Z] rfl rfl HT_ ?_
    refine puA (i := 9) (N := some 82) #[Y, Y, Y, Y, Y, Y, Y, Y, Y, Y, Z, Z, Z, Z, Z, Z, Z, Z, Z] rfl rfl HT_ ?_
    refine puA (i := 12) (N := some 85) #[Y, Y, Y, Y, Y, Y, Y, Y, Y, Y, Z, Z, Y, Z, Z, Z, Z, Z, Z] rfl rfl HT_ ?_
    refine puA (i := 13) (N := some 86) #[Y, Y, Y, Y, Y, Y, Y, Y, Y, Y, Z, Z, Y, Y, Z, Z, Z, Z, Z] rfl rfl HT_ ?_
    refine take_ (i := 10) (N := some 83) (v := ?_) (a' := ?_) #[Y, Y, Y, Y, Y, Y, Y, Y, Y, Y, Y, Z, Y, Y, Z, Z, Z, Z, Z] rfl rfl (take_ofW HT_.out HW_.out (by kernel_rfl)) (fun _ _ _ h => h) (Or.inl ⟨by rfl, ?_⟩) hHeld ?_ ?_
    rotate_left
    ·
     rintro w' ⟨s0, s1, s2, s3⟩
     go_simp
     with_reducible rfl
    rotate_left
    ·
     simp only [pA]
     rfl
    refine take_ (i := 14) (N := some 87) (v := ?_) (a' := ?_) #[Y, Y, Y, Y, Y, Y, Y, Y, Y, Y, Y, Z, Y, Y, Y, Z, Z, Z, Z] rfl rfl (take_ofW HT_.out HW_.out (by kernel_rfl)) (fun _ _ _ h => h) (Or.inl ⟨by rfl, ?_⟩) hHeld ?_ ?_
    rotate_left
    ·
     rintro w' ⟨s0, s1, s2, s3⟩
     go_simp
     with_reducible rfl
    rotate_left
    ·
     simp only [pA]
     rfl
    refine one_ (i := 11) (N := some 84) #[Y, Y, Y, Y, Y, Y, Y, Y, Y, Y, Y, Y, Y, Y, Y, Z, Z, Z, Z] rfl rfl (one_of HT_.out (by kernel_rfl)) (by decide) (fun K hK => ?_)
    refine goes_ Try.func117 (by kernel_rfl) rfl #[.int .i64 a0, .int .i64 (wrap64 ((wrap64 (a1_2 * (wrap64 (a2_1 * t221)))) + (wrap64 (a1_3 * t220))))] (by rfl) rfl rfl hA ?_
    with_reducible refine (spec_l01Val.calls k a0 (wrap64 ((wrap64 (a1_2 * (wrap64 (a2_1 * t221)))) + (wrap64 (a1_3 * t220)))) t224 _ A36.out).mono ?_
    rintro e w' ⟨rfl, ⟨nd, rfl⟩⟩
    refine ⟨_, rfl, ?_⟩
    refine hK.out _ _ ⟨cA BK223 0, cA BK223 1, cA BK222 0, cA BK222 1⟩ (fun hHeld => ?_)
    clear hK K
    refine norm_ (a' := ?_) ?_ ?_
    rotate_left
    ·
     show Act.put _ (some 84) _ = _
     simp only [pA]
     rfl
    refine one_ (i := 15) (N := some 88) #[Y, Y, Y, Y, Y, Y, Y, Y, Y, Y, Y, Y, Y, Y, Y, Y, Z, Z, Z] rfl rfl (one_of HT_.out (by kernel_rfl)) (by decide) (fun K hK => ?_)
    refine goes_ Try.func117 (by kernel_rfl) rfl #[.int .i64 a0, .int .i64 (wrap64 (a1_2 * t219))] (by rfl) rfl rfl hA ?_
    with_reducible refine (spec_l01Val.calls k a0 (wrap64 (a1_2 * t219)) t225 _ A37.out).mono ?_
    rintro e w' ⟨rfl, ⟨nd, rfl⟩⟩
    refine ⟨_, rfl, ?_⟩
    refine hK.out _ _ ⟨cA BK223 0, cA BK223 1, cA BK222 0, cA BK222 1⟩ (fun hHeld => ?_)
    clear hK K
    refine norm_ (a' := ?_) ?_ ?_
    rotate_left
    ·
     show Act.put _ (some 88) _ = _
     simp only [pA]
     rfl
    refine puA (i := 16) (N := some 89) #[Y, Y, Y, Y, Y, Y, Y, Y, Y, Y, Y, Y, Y, Y, Y, Y, Y, Z, Z] rfl rfl HT_ ?_
    refine puA (i := 17) (N := some 90) #[Y, Y, Y, Y, Y, Y, Y, Y, Y, Y, Y, Y, Y, Y, Y, Y, Y, Y, Z] rfl rfl HT_ ?_
    refine puA (i := 18) (N := some 91) #[Y, Y, Y, Y, Y, Y, Y, Y, Y, Y, Y, Y, Y, Y, Y, Y, Y, Y, Y] rfl rfl HT_ ?_
    refine done_ (done_of HT_.out (by kernel_rfl)) ?_
    try go_wp2
    go_meet
    case rel => exact ⟨_, (decide (t224 > t225)), hB, H', ⟨by first | omega | exact Nat.le_refl _⟩, ⟨bkA BK216⟩, ⟨bkA BK217⟩, ⟨bkA BK218⟩, ⟨bkA BK222⟩, ⟨bkA BK223⟩, ⟨blA⟩⟩
 case rest =>
  clear HC8
  try clear c30
  try clear c30b0
  try clear c30b1
  try clear c33
  try clear c33b0
  try clear c33b1
  try clear hcz17_0
  try clear hcz17_1
  try clear hcz17_2
  try clear hcz17_3
  try clear hcz22_0
  try clear hcz22_1
  try clear hcz23_0
  try clear hcz23_1
  try clear hcz23_2
  try clear hcz23_3
  try clear hcz29_0
  try clear hcz29_1
  try clear hfz17_0
  try clear hfz17_1
  try clear hfz17_2
  try clear hfz17_3
  try clear hfz22_0
  try clear hfz22_1
  try clear hfz23_0
  try clear hfz23_1
  try clear hfz23_2
  try clear hfz23_3
  try clear hfz29_0
  try clear hfz29_1
  obtain ⟨kq, x91_7, rfl, HA, HJ7, BK216, BK217, BK218, BK222, BK223, HB⟩ := hcut
  cases kq with
  | zero => exact absurd HA.out (by simp [spec_l04Move.j0])
  | succ kj7 =>
   have H := HA.out
   clear HA
   simp only [spec_l04Move.j0] at H
   have HC40 := Aside0.mk H
   clear H
   go_upto_if 91 with (fail)
   go_cut [] (fun wc => ∃ (kq : Nat) (x224000_39 : Int) (x224001_39 : Int), Aside0 (spec_l04Move.j1 kq a0 ji4 a1_0 a1_1 a1_2 a1_3 a2_0 a2_1 a2_2 x224000_39 x224001_39 = some (r1, r2, r3, r4)) ∧ Aside0 (kq ≤ kj7) ∧ Aside0 (wc.heap[gb216]? = some (.cells #[.int .i64 a1_0, .int .i64 a1_1, .int .i64 a1_2, .int .i64 a1_3] 26 (0, 0))) ∧ Aside0 (wc.heap[gb217]? = some (.cells #[.int .i64 a2_0, .int .i64 a2_1, .int .i64 a2_2] 39 (0, 0))) ∧ Aside0 (wc.heap[gb218]? = some (.cells #[.int .i64 0, .int .i64 0, .int .i64 0] 39 (0, 0))) ∧ Aside0 (wc.heap[gb222]? = some (.cells #[.int .i64 (wrap64 (a1_0 * t219)), .int .i64 (wrap64 (a1_2 * t219))] 22 (0, 0))) ∧ Aside0 (wc.heap[gb223]? = some (.cells #[.int .i64 x224000_39, .int .i64 x224001_39] 22 (0, 0))) ∧ Aside0 (Below w.heap.size w wc))
   case first =>
    have H := HC40.out
    clear HC40
    by_cases c41 : x91_7 = true
    ·
     subst c41
     rw [if_pos rfl] at H
     try dsimp only at H
     have H' := Aside0.mk H
     clear H
     have hnb42 := NB222_216.out
     have hnc42 := NB216_222.out
     have hnb43 := NB222_217.out
     have hnc43 := NB217_222.out
     have hnb44 := NB222_218.out
     have hnc44 := NB218_222.out
     have hnb45 := NB222_223.out
     have hnc45 := NB223_222.out
     obtain ⟨hcz46_0, hcz46_1, hfz46_0, hfz46_1⟩ := cz2 BK222
     have hnb47 := NB223_216.out
     have hnc47 := NB216_223.out
     have hnb48 := NB223_217.out
     have hnc48 := NB217_223.out
     have hnb49 := NB223_218.out
     have hnc49 := NB218_223.out
     have hcz50_0 : wc.cell? ⟨gb223, 0, none⟩ = some (.int .i64 (wrap64 ((wrap64 (a1_0 * (wrap64 (a2_1 * t221)))) + (wrap64 (a1_1 * t220))))) := cA BK223 0
     have hcz50_1 : wc.cell? ⟨gb223, 1, none⟩ = some (.int .i64 (wrap64 ((wrap64 (a1_2 * (wrap64 (a2_1 * t221)))) + (wrap64 (a1_3 * t220))))) := cA BK223 1
     have hfz50_0 := blk_frozen BK223.out 0
     have hfz50_1 := blk_frozen BK223.out 1
     go_wp2
     go_meet
     case rel => exact ⟨_, ((wrap64 (a1_0 * t219))), ((wrap64 (a1_2 * t219))), H', ⟨by have := HJ7.out; first | omega | exact Nat.le_refl _⟩, ⟨bkF BK216⟩, ⟨bkF BK217⟩, ⟨bkF BK218⟩, ⟨bkF BK222⟩, ⟨by refine dr ?_; refine blk_put (cs := #[.int .i64 (wrap64 (a1_0 * t219)), .int .i64 (wrap64 ((wrap64 (a1_2 * (wrap64 (a2_1 * t221)))) + (wrap64 (a1_3 * t220))))]) ?_ 1 _ rfl; refine dr ?_; refine blk_put (cs := #[.int .i64 (wrap64 ((wrap64 (a1_0 * (wrap64 (a2_1 * t221)))) + (wrap64 (a1_1 * t220)))), .int .i64 (wrap64 ((wrap64 (a1_2 * (wrap64 (a2_1 * t221)))) + (wrap64 (a1_3 * t220))))]) ?_ 0 _ rfl; exact bkA BK223⟩, ⟨blA⟩⟩
    ·
     replace c41 := Bool.eq_false_iff.mpr c41
     subst c41
     rw [if_neg (show ¬ (false = true) by decide)] at H
     try dsimp only at H
     have H' := Aside0.mk H
     clear H
     go_wp2
     go_meet
     case rel => exact ⟨_, ((wrap64 ((wrap64 (a1_0 * (wrap64 (a2_1 * t221)))) + (wrap64 (a1_1 * t220))))), ((wrap64 ((wrap64 (a1_2 * (wrap64 (a2_1 * t221)))) + (wrap64 (a1_3 * t220))))), H', ⟨by have := HJ7.out; first | omega | exact Nat.le_refl _⟩, ⟨bkA BK216⟩, ⟨bkA BK217⟩, ⟨bkA BK218⟩, ⟨bkA BK222⟩, ⟨bkA BK223⟩, ⟨blA⟩⟩
   case rest =>
    clear HC40
    try clear c30
    try clear c30b0
    try clear c30b1
    try clear c33
    try clear c33b0
    try clear c33b1
    try clear c41
    try clear hcz17_0
    try clear hcz17_1
    try clear hcz17_2
    try clear hcz17_3
    try clear hcz22_0
    try clear hcz22_1
    try clear hcz23_0
    try clear hcz23_1
    try clear hcz23_2
    try clear hcz23_3
    try clear hcz29_0
    try clear hcz29_1
    try clear hcz46_0
    try clear hcz46_1
    try clear hcz50_0
    try clear hcz50_1
    try clear hfz17_0
    try clear hfz17_1
    try clear hfz17_2
    try clear hfz17_3
    try clear hfz22_0
    try clear hfz22_1
    try clear hfz23_0
    try clear hfz23_1
    try clear hfz23_2
    try clear hfz23_3
    try clear hfz29_0
    try clear hfz29_1
    try clear hfz46_0
    try clear hfz46_1
    try clear hfz50_0
    try clear hfz50_1
    obtain ⟨kq, x224000_39, x224001_39, HA, HJ39, BK216, BK217, BK218, BK222, BK223, HB⟩ := hcut
    cases kq with
    | zero => exact absurd HA.out (by simp [spec_l04Move.j1])
    | succ kj39 =>
     have H := HA.out
     clear HA
     simp only [spec_l04Move.j1] at H
     replace H := bS H
     obtain ⟨t226, A51, H⟩ := H
     try dsimp only at H
     replace H := bS H
     obtain ⟨t227, A52, H⟩ := H
     try dsimp only at H
     replace H := bS H
     obtain ⟨t228, A53, H⟩ := H
     try dsimp only at H
     replace H := bS H
     obtain ⟨⟨t229, t230, t231, t232⟩, A54, H⟩ := H
     try dsimp only at H
     simp only [Option.some.injEq, Prod.mk.injEq] at H
     obtain ⟨rfl, rfl, rfl, rfl⟩ := H
     try go_wp2
     have n0_ := Aside0.mk (blk_drew BK216.out)
     have n1_ := Aside0.mk (blk_drew BK217.out)
     have n2_ := Aside0.mk (blk_drew BK218.out)
     have n3_ := Aside0.mk (blk_drew BK222.out)
     have n4_ := Aside0.mk (blk_drew BK223.out)
     have n5_ := Aside0.mk (below_drew1 HB.out)
     clear BK216
     clear BK217
     clear BK218
     clear BK222
     clear BK223
     clear HB
     have BK216 := n0_
     have BK217 := n1_
     have BK218 := n2_
     have BK222 := n3_
     have BK223 := n4_
     have HB := n5_
     clear n0_ n1_ n2_ n3_ n4_ n5_
     refine start_ (n := 17) (S := fun w' => w'.cell? ⟨gb216, 0, none⟩ = some (.int .i64 a1_0) ∧ w'.cell? ⟨gb216, 1, none⟩ = some (.int .i64 a1_1) ∧ w'.cell? ⟨gb216, 2, none⟩ = some (.int .i64 a1_2) ∧ w'.cell? ⟨gb216, 3, none⟩ = some (.int .i64 a1_3) ∧ w'.cell? ⟨gb217, 0, none⟩ = some (.int .i64 a2_0) ∧ w'.cell? ⟨gb217, 1, none⟩ = some (.int .i64 a2_1) ∧ w'.cell? ⟨gb217, 2, none⟩ = some (.int .i64 a2_2) ∧ w'.cell? ⟨gb223, 0, none⟩ = some (.int .i64 x224000_39) ∧ w'.cell? ⟨gb223, 1, none⟩ = some (.int .i64 x224001_39)) (ds := []) #[Z, Z, Z, Z, Z, Z, Z, Z, Z, Z, Z, Z, Z, Z, Z, Z, Z] (by kernel_rfl) rfl rfl ⟨cA BK216 0, cA BK216 1, cA BK216 2, cA BK216 3, cA BK217 0, cA BK217 1, cA BK217 2, cA BK223 0, cA BK223 1⟩ (fun hHeld => ?_); refine with_tabW spec_l04Move.tab8 spec_l04Move.bits8 (fun HT_ HW_ => ?_)
     generalize wc.drew = w55 at BK216 BK217 BK218 BK222 BK223 HB hHeld ⊢
     refine puA (i := 0) (N := some 93) #[Y, Z, Z, Z, Z, Z, Z, Z, Z, Z, Z, Z, Z, Z, Z, Z, Z] rfl rfl HT_ ?_
     refine puA (i := 4) (N := some 97) #[Y, Z, Z, Z, Y, Z, Z, Z, Z, Z, Z, Z, Z, Z, Z, Z, Z] rfl rfl HT_ ?_
     refine puA (i := 7) (N := some 100) #[Y, Z, Z, Z, Y, Z, Z, Y, Z, Z, Z, Z, Z, Z, Z, Z, Z] rfl rfl HT_ ?_
     refine puA (i := 8) (N := some 101) #[Y, Z, Z, Z, Y, Z, Z, Y, Y, Z, Z, Z, Z, Z, Z, Z, Z] rfl rfl HT_ ?_
     refine puA (i := 10) (N := some 103) #[Y, Z, Z, Z, Y, Z, Z, Y, Y, Z, Y, Z, Z, Z, Z, Z, Z] rfl rfl HT_ ?_
     refine puA (i := 11) (N := some 104) #[Y, Z, Z, Z, Y, Z, Z, Y, Y, Z, Y, Y, Z, Z, Z, Z, Z] rfl rfl HT_ ?_
     refine take_ (i := 1) (N := some 94) (v := ?_) (a' := ?_) #[Y, Y, Z, Z, Y, Z, Z, Y, Y, Z, Y, Y, Z, Z, Z, Z, Z] rfl rfl (take_ofW HT_.out HW_.out (by kernel_rfl)) (fun _ _ _ h => h) (Or.inl ⟨by rfl, ?_⟩) hHeld ?_ ?_
     rotate_left
     ·
      rintro w' ⟨s0, s1, s2, s3, s4, s5, s6, s7, s8⟩
      go_simp
      with_reducible rfl
     rotate_left
     ·
      simp only [pA]
      rfl
     refine take_ (i := 5) (N := some 98) (v := ?_) (a' := ?_) #[Y, Y, Z, Z, Y, Y, Z, Y, Y, Z, Y, Y, Z, Z, Z, Z, Z] rfl rfl (take_ofW HT_.out HW_.out (by kernel_rfl)) (fun _ _ _ h => h) (Or.inl ⟨by rfl, ?_⟩) hHeld ?_ ?_
     rotate_left
     ·
      rintro w' ⟨s0, s1, s2, s3, s4, s5, s6, s7, s8⟩
      go_simp
      with_reducible rfl
     rotate_left
     ·
      simp only [pA]
      rfl
     refine take_ (i := 12) (N := some 105) (v := ?_) (a' := ?_) #[Y, Y, Z, Z, Y, Y, Z, Y, Y, Z, Y, Y, Y, Z, Z, Z, Z] rfl rfl (take_ofW HT_.out HW_.out (by kernel_rfl)) (fun _ _ _ h => h) (Or.inl ⟨by rfl, ?_⟩) hHeld ?_ ?_
     rotate_left
     ·
      rintro w' ⟨s0, s1, s2, s3, s4, s5, s6, s7, s8⟩
      go_simp
      with_reducible rfl
     rotate_left
     ·
      simp only [pA]
      rfl
     refine one_ (i := 2) (N := some 95) #[Y, Y, Y, Z, Y, Y, Z, Y, Y, Z, Y, Y, Y, Z, Z, Z, Z] rfl rfl (one_of HT_.out (by kernel_rfl)) (by decide) (fun K hK => ?_)
     refine goes_ Try.func118 (by kernel_rfl) rfl #[.agg #[.int .i64 a1_0, .int .i64 a1_1, .int .i64 a1_2, .int .i64 a1_3]] (by rfl) rfl rfl hA ?_
     with_reducible refine (spec_l04Det.calls a1_0 a1_1 a1_2 a1_3 t226 _ A51.out).mono ?_
     rintro e w56 ⟨rfl, hb⟩
     refine ⟨_, rfl, ?_⟩
     replace BK216 := kB BK216 hb
     replace BK217 := kB BK217 hb
     replace BK218 := kB BK218 hb
     replace BK222 := kB BK222 hb
     replace BK223 := kB BK223 hb
     replace HB := lB hb
     (try clear hb)
     (try clear hb2)
     (try clear hk)
     (try clear hi)
     refine hK.out _ _ ⟨cA BK216 0, cA BK216 1, cA BK216 2, cA BK216 3, cA BK217 0, cA BK217 1, cA BK217 2, cA BK223 0, cA BK223 1⟩ (fun hHeld => ?_)
     clear hK K
     refine norm_ (a' := ?_) ?_ ?_
     rotate_left
     ·
      show Act.put _ (some 95) _ = _
      simp only [pA]
      rfl
     refine one_ (i := 3) (N := some 96) #[Y, Y, Y, Y, Y, Y, Z, Y, Y, Z, Y, Y, Y, Z, Z, Z, Z] rfl rfl (one_of HT_.out (by kernel_rfl)) (by decide) (fun K hK => ?_)
     refine goes_ Try.func117 (by kernel_rfl) rfl #[.int .i64 a0, .int .i64 t226] (by rfl) rfl rfl hA ?_
     with_reducible refine (spec_l01Val.calls kj39 a0 t226 t227 _ A52.out).mono ?_
     rintro e w' ⟨rfl, ⟨nd, rfl⟩⟩
     refine ⟨_, rfl, ?_⟩
     refine hK.out _ _ ⟨cA BK216 0, cA BK216 1, cA BK216 2, cA BK216 3, cA BK217 0, cA BK217 1, cA BK217 2, cA BK223 0, cA BK223 1⟩ (fun hHeld => ?_)
     clear hK K
     refine norm_ (a' := ?_) ?_ ?_
     rotate_left
     ·
      show Act.put _ (some 96) _ = _
      simp only [pA]
      rfl
     refine puA (i := 6) (N := some 99) #[Y, Y, Y, Y, Y, Y, Y, Y, Y, Z, Y, Y, Y, Z, Z, Z, Z] rfl rfl HT_ ?_
     refine puA (i := 9) (N := some 102) #[Y, Y, Y, Y, Y, Y, Y, Y, Y, Y, Y, Y, Y, Z, Z, Z, Z] rfl rfl HT_ ?_
     refine one_ (i := 13) (N := some 106) #[Y, Y, Y, Y, Y, Y, Y, Y, Y, Y, Y, Y, Y, Y, Z, Z, Z] rfl rfl (one_of HT_.out (by kernel_rfl)) (by decide) (fun K hK => ?_)
     refine goes_ Try.func117 (by kernel_rfl) rfl #[.int .i64 a0, .int .i64 x224001_39] (by rfl) rfl rfl hA ?_
     with_reducible refine (spec_l01Val.calls kj39 a0 x224001_39 t228 _ A53.out).mono ?_
     rintro e w' ⟨rfl, ⟨nd, rfl⟩⟩
     refine ⟨_, rfl, ?_⟩
     refine hK.out _ _ ⟨cA BK216 0, cA BK216 1, cA BK216 2, cA BK216 3, cA BK217 0, cA BK217 1, cA BK217 2, cA BK223 0, cA BK223 1⟩ (fun hHeld => ?_)
     clear hK K
     refine norm_ (a' := ?_) ?_ ?_
     rotate_left
     ·
      show Act.put _ (some 106) _ = _
      simp only [pA]
      rfl
     refine puA (i := 14) (N := some 107) #[Y, Y, Y, Y, Y, Y, Y, Y, Y, Y, Y, Y, Y, Y, Y, Z, Z] rfl rfl HT_ ?_
     refine puA (i := 15) (N := some 108) #[Y, Y, Y, Y, Y, Y, Y, Y, Y, Y, Y, Y, Y, Y, Y, Y, Z] rfl rfl HT_ ?_
     refine puA (i := 16) (N := some 14) #[Y, Y, Y, Y, Y, Y, Y, Y, Y, Y, Y, Y, Y, Y, Y, Y, Y] rfl rfl HT_ ?_
     refine done_ (done_of HT_.out (by kernel_rfl)) ?_
     have hnb57 := NB223_216.out
     have hnc57 := NB216_223.out
     have hnb58 := NB223_217.out
     have hnc58 := NB217_223.out
     have hnb59 := NB223_218.out
     have hnc59 := NB218_223.out
     have hnb60 := NB223_222.out
     have hnc60 := NB222_223.out
     obtain ⟨hcz61_0, hcz61_1, hfz61_0, hfz61_1⟩ := cz2 BK223
     try go_wp2_with (first | ((with_reducible refine gate_callee (f := 119) rfl ?_); refine goesL_ (some 115) rfl rfl Try.func119 (by kernel_rfl) rfl #[.int .i64 a0, .int .i64 x224000_39, .int .i64 x224001_39, .int .i64 (wrap64 ((wrap64 ((wrap64 (t227 + a2_0)) + (wrap64 (2 * ji4)))) - (wrap64 (2 * t228))))] rfl (by (try simp only [List.map_toArray, List.map_cons, List.map_nil]); first | done | (simp only [hji4]; rfl) | rfl | (simp only [List.length_drop, List.length_take]; rfl)) ?_; (with_reducible refine (spec_l01Of.calls kj39 a0 x224000_39 x224001_39 (wrap64 ((wrap64 ((wrap64 (t227 + a2_0)) + (wrap64 (2 * ji4)))) - (wrap64 (2 * t228)))) t229 t230 t231 t232 _ A54.out).mono ?_); rintro e w62 ⟨rfl, hb⟩; refine ⟨_, rfl, ?_⟩; have n0_ := kB BK216 hb; have n1_ := kB BK217 hb; have n2_ := kB BK218 hb; have n3_ := kB BK222 hb; have n4_ := kB BK223 hb; have n5_ := lB hb; clear BK216; clear BK217; clear BK218; clear BK222; clear BK223; clear HB; have BK216 := n0_; have BK217 := n1_; have BK218 := n2_; have BK222 := n3_; have BK223 := n4_; have HB := n5_; clear n0_ n1_ n2_ n3_ n4_ n5_; (try clear hb); (try clear hb2); (try clear hk); (try clear hi); have hnb63 := NB218_216.out; have hnc63 := NB216_218.out; have hnb64 := NB218_217.out; have hnc64 := NB217_218.out; have hnb65 := NB218_222.out; have hnc65 := NB222_218.out; obtain ⟨hcz66_0, hcz66_1, hcz66_2, hfz66_0, hfz66_1, hfz66_2⟩ := cz3 BK218))
     refine bodyPost_ret (results_ct rfl _ _ gb218 39 #[.int .i64 t229, .int .i64 t230, .int .i64 t231] (0, 0) _ rfl (by refine dr ?_; refine blk_put (cs := #[.int .i64 t229, .int .i64 t230, .int .i64 0]) ?_ 2 _ rfl; refine dr ?_; refine blk_put (cs := #[.int .i64 t229, .int .i64 0, .int .i64 0]) ?_ 1 _ rfl; refine dr ?_; refine blk_put (cs := #[.int .i64 0, .int .i64 0, .int .i64 0]) ?_ 0 _ rfl; exact bkA BK218) Try.underlying39 rfl (by kernel_rfl)) rfl ?_
     exact ⟨by first | rfl | (simp [errW_none, errW_some] <;> rfl) | (simp only [← hji4]; first | rfl | (simp [errW_none, errW_some] <;> rfl)) | (simp [*, errW_none, errW_some] <;> rfl), blA⟩
end Go.Proofs.Ytccpccnnbacgjaa.PAll
