-- turned for this claim out of the kit's print: the same functions, packed anew
import Derived.Test.YtccpccnnbacgjaaQx
import Derived.Test.YtccpccnnbacgjaaQLtoBall
import Derived.Test.YtccpccnnbacgjaaQimplmoversCode
import Derived.Test.YtccpccnnbacgjaaQimplofMark
namespace Go.Proofs.Ytccpccnnbacgjaa.PAll
open Go.RowKit Go.Proofs.YtccpccnnbacgjaaW.PrintWords Go.Proofs.YtccpccnnbacgjaaW.PrintLast Go.Proofs.YtccpccnnbacgjaaW.PrintMore
attribute [local go_sem] Go.Proofs.Ytccpccnnbacgjaa.Aux.setCell_drewN Go.Proofs.Ytccpccnnbacgjaa.Aux.isSome_setCell max2_int min2_int max_two min_two max_three min_three max_four min_four   -- for this text's walks alone
set_option linter.unusedVariables false
set_option linter.unusedSimpArgs false
/-! ### impl_moveBall: function 68 -/
def impl_moveBall.j0 : Nat → Int → Int → Int → Int → Int → Int → Int → Int → Int → Int → Option (Int × Int × Int × Bool)
 | 0, _, _, _, _, _, _, _, _, _, _ => none
 | k + 1, x0, x364000, x364001, x364002, x364003, x365000, x365001, x365002, x371000, x371001 => (impl_determinant.f x364000 x364001 x364002 x364003).bind fun t373 => ((impl_valuation.f k x0 t373).bind fun t374 => ((impl_valuation.f k x0 x371001).bind fun t375 => ((impl_ballAt.f k x0 x371000 x371001 (wrap64 ((wrap64 ((wrap64 (t374 + x365000)) + 12)) - (wrap64 (2 * t375))))).bind fun bt376 => (some (bt376.1, bt376.2.1, bt376.2.2.1, bt376.2.2.2)))))
def impl_moveBall.f (k : Nat) (a0 : Int) (a1_0 : Int) (a1_1 : Int) (a1_2 : Int) (a1_3 : Int) (a2_0 : Int) (a2_1 : Int) (a2_2 : Int) : Option (Int × Int × Int × Bool) := (impl_mark.f k a0 a2_0 a2_1 a2_2).bind fun t366 => ((impl_power.f k a0 6).bind fun t367 => ((impl_power.f k a0 (wrap64 (a2_0 + 6))).bind fun t368 => ((impl_valuation.f k a0 (wrap64 ((wrap64 (a1_2 * t366)) + (wrap64 (a1_3 * t367))))).bind fun t371 => ((impl_valuation.f k a0 (wrap64 (a1_2 * t368))).bind fun t372 => (if t371 > t372 then (impl_moveBall.j0 k a0 a1_0 a1_1 a1_2 a1_3 a2_0 a2_1 a2_2 (wrap64 (a1_0 * t368)) (wrap64 (a1_2 * t368))) else (impl_moveBall.j0 k a0 a1_0 a1_1 a1_2 a1_3 a2_0 a2_1 a2_2 (wrap64 ((wrap64 (a1_0 * t366)) + (wrap64 (a1_1 * t367)))) (wrap64 ((wrap64 (a1_2 * t366)) + (wrap64 (a1_3 * t367))))))))))
theorem impl_moveBall.mono_l : ∀ k, (∀ y0 y1 y2 y3 y4 y5 y6 y7 y8 y9, LeO (impl_moveBall.j0 k y0 y1 y2 y3 y4 y5 y6 y7 y8 y9) (impl_moveBall.j0 (k + 1) y0 y1 y2 y3 y4 y5 y6 y7 y8 y9))
 | 0 => fun _ _ _ _ _ _ _ _ _ _ r h => by simp [impl_moveBall.j0] at h
 | k + 1 => by
  have ih0 := impl_moveBall.mono_l k
  ·
   intro y0 y1 y2 y3 y4 y5 y6 y7 y8 y9
   unfold impl_moveBall.j0
   repeat' first
   | (with_reducible exact ih0 _ _ _ _ _ _ _ _ _ _)
   | (with_reducible exact impl_ballAt.mono _ _ _ _ _)
   | (with_reducible exact impl_mark.mono _ _ _ _ _)
   | (with_reducible exact impl_power.mono _ _ _)
   | (with_reducible exact impl_valuation.mono _ _ _)
   | (with_reducible exact LeO.refl _)
   | (with_reducible exact LeO.none _)
   | (with_reducible refine LeO.ite ?_ ?_)
   | (with_reducible refine LeO.bind ?_ (fun _ => ?_))
theorem impl_moveBall.mono : ∀ a0 a1 a2 a3 a4 a5 a6 a7 k, LeO (impl_moveBall.f k a0 a1 a2 a3 a4 a5 a6 a7) (impl_moveBall.f (k + 1) a0 a1 a2 a3 a4 a5 a6 a7) := by
 intro a0 a1 a2 a3 a4 a5 a6 a7 k
 have ih0 := impl_moveBall.mono_l k
 unfold impl_moveBall.f
 repeat' first
   | (with_reducible exact ih0 _ _ _ _ _ _ _ _ _ _)
   | (with_reducible exact impl_ballAt.mono _ _ _ _ _)
   | (with_reducible exact impl_mark.mono _ _ _ _ _)
   | (with_reducible exact impl_power.mono _ _ _)
   | (with_reducible exact impl_valuation.mono _ _ _)
   | (with_reducible exact LeO.refl _)
   | (with_reducible exact LeO.none _)
   | (with_reducible refine LeO.ite ?_ ?_)
   | (with_reducible refine LeO.bind ?_ (fun _ => ?_))
def impl_moveBall.T1 : Bool × List (List Nat × List Nat) := (true, [([], []), ([], []), ([0, 1], [0, 1]), ([], []), ([3, 2], [3]), ([], []), ([], []), ([6], [6]), ([7], [7]), ([5, 8, 4], [5, 8]), ([2, 9, 0, 1, 2], [2]), ([4, 10, 0, 1, 2, 3, 4, 10], [4]), ([9, 11, 0, 1, 2, 3, 4, 5, 6, 7, 8, 9, 10, 11], [9])])
def impl_moveBall.B1 : List Nat := [0, 0, 3, 0, 15, 0, 0, 64, 192, 511, 1023, 2047, 4095]
theorem impl_moveBall.tab1 : rtab .any (opsOf Try.f68 1) = impl_moveBall.T1 := by kernel_rfl
theorem impl_moveBall.bits1 : waitsOk impl_moveBall.T1.2 impl_moveBall.B1 = true := by kernel_rfl
def impl_moveBall.T4 : Bool × List (List Nat × List Nat) := (true, [([], []), ([], []), ([1], [1]), ([0, 2], [0, 2]), ([], []), ([], []), ([5], [5]), ([4, 6, 3], [4, 6]), ([3, 7], [3, 7])])
def impl_moveBall.B4 : List Nat := [0, 0, 2, 7, 0, 0, 32, 127, 255]
theorem impl_moveBall.tab4 : rtab .any (opsOf Try.f68 4) = impl_moveBall.T4 := by kernel_rfl
theorem impl_moveBall.bits4 : waitsOk impl_moveBall.T4.2 impl_moveBall.B4 = true := by kernel_rfl
def impl_moveBall.T6 : Bool × List (List Nat × List Nat) := (true, [([], []), ([], []), ([1], [1]), ([0, 2, 2], [0, 2]), ([], []), ([4], [4]), ([3, 5], [3, 5]), ([6], [6]), ([], []), ([], []), ([9], [9]), ([8, 10, 3], [8, 10]), ([11], [11]), ([7, 12], [7, 12]), ([13, 11, 0, 1, 2, 3, 4, 5, 6, 7, 8, 9, 10, 11, 12, 13], [13])])
def impl_moveBall.B6 : List Nat := [0, 0, 2, 7, 0, 16, 63, 127, 0, 0, 512, 1807, 3855, 8191, 16383]
theorem impl_moveBall.tab6 : rtab .any (opsOf Try.f68 6) = impl_moveBall.T6 := by kernel_rfl
theorem impl_moveBall.bits6 : waitsOk impl_moveBall.T6.2 impl_moveBall.B6 = true := by kernel_rfl
set_option maxHeartbeats 8000000 in
set_option maxRecDepth 100000 in
theorem impl_moveBall.calls (k : Nat) (a0 : Int) (a1_0 : Int) (a1_1 : Int) (a1_2 : Int) (a1_3 : Int) (a2_0 : Int) (a2_1 : Int) (a2_2 : Int) (r1 : Int) (r2 : Int) (r3 : Int) (r4 : Bool) (w : World) (h : impl_moveBall.f k a0 a1_0 a1_1 a1_2 a1_3 a2_0 a2_1 a2_2 = some (r1, r2, r3, r4)) :
  Calls Try.prog 68 #[.int .i64 a0, .agg #[.int .i64 a1_0, .int .i64 a1_1, .int .i64 a1_2, .int .i64 a1_3], .agg #[.int .i64 a2_0, .int .i64 a2_1, .int .i64 a2_2]] w fun e w' => e = .returned (.tuple #[.agg #[.int .i64 r1, .int .i64 r2, .int .i64 r3], .bool r4]) ∧ Below w.heap.size w w' := by
 have hu26 := Try.underlying26
 have hu39 := Try.underlying39
 have hu22 := Try.underlying22
 have HB := Aside0.mk (Below.refl w.heap.size w)
 have H := h
 unfold impl_moveBall.f at H
 clear h
 replace H := bS H
 obtain ⟨t366, A4, H⟩ := H
 try dsimp only at H
 replace H := bS H
 obtain ⟨t367, A5, H⟩ := H
 try dsimp only at H
 replace H := bS H
 obtain ⟨t368, A6, H⟩ := H
 try dsimp only at H
 replace H := bS H
 obtain ⟨t371, A7, H⟩ := H
 try dsimp only at H
 replace H := bS H
 obtain ⟨t372, A8, H⟩ := H
 try dsimp only at H
 have HC9 := Aside0.mk H
 clear H
 go_enter Try.func68, Try.ntmps68
 try go_wp2_with (first | ((with_reducible refine gate_dst (N := 4) rfl ?_); refine box_event ?hg (N := 4) ?hd (cs := #[.int .i64 a1_0, .int .i64 a1_1, .int .i64 a1_2, .int .i64 a1_3]) (t := 26) ?hr ?_; (case hd => rfl); (case hg => rfl); (case hr => first | (go_simp; done) | (go_simp; rfl)); intro gb363 hg w10 hbox hb; have n0_ := lB hb; have n1_ := Aside0.mk (hbox); have n2_ := sA hg; have n3_ := sA hg; clear HB; have HB := n0_; have BK363 := n1_; have GW363 := n2_; have GE363 := n3_; clear n0_ n1_ n2_ n3_; clear hb hbox hg) | ((with_reducible refine gate_dst (N := 5) rfl ?_); refine box_event ?hg (N := 5) ?hd (cs := #[.int .i64 a2_0, .int .i64 a2_1, .int .i64 a2_2]) (t := 39) ?hr ?_; (case hd => rfl); (case hg => rfl); (case hr => first | (go_simp; done) | (go_simp; rfl)); intro gb364 hg w11 hbox hb; have n0_ := kB BK363 hb; have n1_ := lB hb; have n2_ := Aside0.mk (hbox); have n3_ := sA hg; have n4_ := sA hg; have n5_ := nA hg BK363; have n6_ := nB hg BK363; clear BK363; clear HB; have BK363 := n0_; have HB := n1_; have BK364 := n2_; have GW364 := n3_; have GE364 := n4_; have NB363_364 := n5_; have NB364_363 := n6_; clear n0_ n1_ n2_ n3_ n4_ n5_ n6_; clear hb hbox hg) | ((with_reducible refine gate_dst (N := 6) rfl ?_); refine box_event ?hg (N := 6) ?hd (cs := #[.int .i64 0, .int .i64 0, .int .i64 0]) (t := 39) ?hr ?_; (case hd => rfl); (case hg => rfl); (case hr => first | (go_simp; done) | (go_simp; rfl)); intro gb365 hg w12 hbox hb; have n0_ := kB BK363 hb; have n1_ := kB BK364 hb; have n2_ := lB hb; have n3_ := Aside0.mk (hbox); have n4_ := sA hg; have n5_ := sA hg; have n6_ := nA hg BK363; have n7_ := nB hg BK363; have n8_ := nA hg BK364; have n9_ := nB hg BK364; clear BK363; clear BK364; clear HB; have BK363 := n0_; have BK364 := n1_; have HB := n2_; have BK365 := n3_; have GW365 := n4_; have GE365 := n5_; have NB363_365 := n6_; have NB365_363 := n7_; have NB364_365 := n8_; have NB365_364 := n9_; clear n0_ n1_ n2_ n3_ n4_ n5_ n6_ n7_ n8_ n9_; clear hb hbox hg))
 have n0_ := Aside0.mk (blk_drew BK363.out)
 have n1_ := Aside0.mk (blk_drew BK364.out)
 have n2_ := Aside0.mk (blk_drew BK365.out)
 have n3_ := Aside0.mk (below_drew1 HB.out)
 clear BK363
 clear BK364
 clear BK365
 clear HB
 have BK363 := n0_
 have BK364 := n1_
 have BK365 := n2_
 have HB := n3_
 clear n0_ n1_ n2_ n3_
 refine start_ (n := 13) (S := fun w' => w'.cell? ⟨gb364, 0, none⟩ = some (.int .i64 a2_0) ∧ w'.cell? ⟨gb364, 1, none⟩ = some (.int .i64 a2_1) ∧ w'.cell? ⟨gb364, 2, none⟩ = some (.int .i64 a2_2)) (ds := []) #[Z, Z, Z, Z, Z, Z, Z, Z, Z, Z, Z, Z, Z] (by kernel_rfl) rfl rfl ⟨cA BK364 0, cA BK364 1, cA BK364 2⟩ (fun hHeld => ?_); refine with_tabW impl_moveBall.tab1 impl_moveBall.bits1 (fun HT_ HW_ => ?_)
 generalize w12.drew = w13 at BK363 BK364 BK365 HB hHeld ⊢
 refine puA (i := 0) (N := some 14) #[Y, Z, Z, Z, Z, Z, Z, Z, Z, Z, Z, Z, Z] rfl rfl HT_ ?_
 refine puA (i := 3) (N := some 17) #[Y, Z, Z, Y, Z, Z, Z, Z, Z, Z, Z, Z, Z] rfl rfl HT_ ?_
 refine puA (i := 5) (N := some 19) #[Y, Z, Z, Y, Z, Y, Z, Z, Z, Z, Z, Z, Z] rfl rfl HT_ ?_
 refine puA (i := 6) (N := some 20) #[Y, Z, Z, Y, Z, Y, Y, Z, Z, Z, Z, Z, Z] rfl rfl HT_ ?_
 refine take_ (i := 1) (N := some 15) (v := ?_) (a' := ?_) #[Y, Y, Z, Y, Z, Y, Y, Z, Z, Z, Z, Z, Z] rfl rfl (take_ofW HT_.out HW_.out (by kernel_rfl)) (fun _ _ _ h => h) (Or.inl ⟨by rfl, ?_⟩) hHeld ?_ ?_
 rotate_left
 ·
  rintro w' ⟨s0, s1, s2⟩
  go_simp
  with_reducible rfl
 rotate_left
 ·
  simp only [pA]
  rfl
 refine take_ (i := 7) (N := some 21) (v := ?_) (a' := ?_) #[Y, Y, Z, Y, Z, Y, Y, Y, Z, Z, Z, Z, Z] rfl rfl (take_ofW HT_.out HW_.out (by kernel_rfl)) (fun _ _ _ h => h) (Or.inl ⟨by rfl, ?_⟩) hHeld ?_ ?_
 rotate_left
 ·
  rintro w' ⟨s0, s1, s2⟩
  go_simp
  with_reducible rfl
 rotate_left
 ·
  simp only [pA]
  rfl
 refine puA (i := 8) (N := some 22) #[Y, Y, Z, Y, Z, Y, Y, Y, Y, Z, Z, Z, Z] rfl rfl HT_ ?_
 refine one_ (i := 2) (N := some 16) #[Y, Y, Y, Y, Z, Y, Y, Y, Y, Z, Z, Z, Z] rfl rfl (one_of HT_.out (by kernel_rfl)) (by decide) (fun K hK => ?_)
 refine goes_ Try.func122 (by kernel_rfl) rfl #[.int .i64 a0, .agg #[.int .i64 a2_0, .int .i64 a2_1, .int .i64 a2_2]] (by rfl) rfl rfl hA ?_
 with_reducible refine (impl_mark.calls k a0 a2_0 a2_1 a2_2 t366 _ A4.out).mono ?_
 rintro e w14 ⟨rfl, hb⟩
 refine ⟨_, rfl, ?_⟩
 replace BK363 := kB BK363 hb
 replace BK364 := kB BK364 hb
 replace BK365 := kB BK365 hb
 replace HB := lB hb
 (try clear hb)
 (try clear hb2)
 (try clear hk)
 (try clear hi)
 refine hK.out _ _ ⟨cA BK364 0, cA BK364 1, cA BK364 2⟩ (fun hHeld => ?_)
 clear hK K
 refine norm_ (a' := ?_) ?_ ?_
 rotate_left
 ·
  show Act.put _ (some 16) _ = _
  simp only [pA]
  rfl
 refine one_ (i := 4) (N := some 18) #[Y, Y, Y, Y, Y, Y, Y, Y, Y, Z, Z, Z, Z] rfl rfl (one_of HT_.out (by kernel_rfl)) (by decide) (fun K hK => ?_)
 refine goes_ Try.func93 (by kernel_rfl) rfl #[.int .i64 a0, .int .i64 6] (by rfl) rfl rfl hA ?_
 with_reducible refine (impl_power.calls k a0 6 t367 _ A5.out).mono ?_
 rintro e w' ⟨rfl, ⟨nd, rfl⟩⟩
 refine ⟨_, rfl, ?_⟩
 refine hK.out _ _ ⟨cA BK364 0, cA BK364 1, cA BK364 2⟩ (fun hHeld => ?_)
 clear hK K
 refine norm_ (a' := ?_) ?_ ?_
 rotate_left
 ·
  show Act.put _ (some 18) _ = _
  simp only [pA]
  rfl
 refine one_ (i := 9) (N := some 23) #[Y, Y, Y, Y, Y, Y, Y, Y, Y, Y, Z, Z, Z] rfl rfl (one_of HT_.out (by kernel_rfl)) (by decide) (fun K hK => ?_)
 refine goes_ Try.func93 (by kernel_rfl) rfl #[.int .i64 a0, .int .i64 (wrap64 (a2_0 + 6))] (by rfl) rfl rfl hA ?_
 with_reducible refine (impl_power.calls k a0 (wrap64 (a2_0 + 6)) t368 _ A6.out).mono ?_
 rintro e w' ⟨rfl, ⟨nd, rfl⟩⟩
 refine ⟨_, rfl, ?_⟩
 refine hK.out _ _ ⟨cA BK364 0, cA BK364 1, cA BK364 2⟩ (fun hHeld => ?_)
 clear hK K
 refine norm_ (a' := ?_) ?_ ?_
 rotate_left
 ·
  show Act.put _ (some 23) _ = _
  simp only [pA]
  rfl
 refine puA (i := 10) (N := some 8) #[Y, Y, Y, Y, Y, Y, Y, Y, Y, Y, Y, Z, Z] rfl rfl HT_ ?_
 refine puA (i := 11) (N := some 9) #[Y, Y, Y, Y, Y, Y, Y, Y, Y, Y, Y, Y, Z] rfl rfl HT_ ?_
 refine puA (i := 12) (N := some 10) #[Y, Y, Y, Y, Y, Y, Y, Y, Y, Y, Y, Y, Y] rfl rfl HT_ ?_
 refine done_ (done_of HT_.out (by kernel_rfl)) ?_
 have hnb15 := NB363_364.out
 have hnc15 := NB364_363.out
 have hnb16 := NB363_365.out
 have hnc16 := NB365_363.out
 obtain ⟨hcz17_0, hcz17_1, hcz17_2, hcz17_3, hfz17_0, hfz17_1, hfz17_2, hfz17_3⟩ := cz4 BK363
 try go_wp2_with (first | ((with_reducible refine gate_dst (N := 11) rfl ?_); refine box_event ?hg (N := 11) ?hd (cs := #[.int .i64 0, .int .i64 0]) (t := 22) ?hr ?_; (case hd => rfl); (case hg => rfl); (case hr => first | (go_simp; done) | (go_simp; rfl)); intro gb369 hg w18 hbox hb; have n0_ := kB BK363 hb; have n1_ := kB BK364 hb; have n2_ := kB BK365 hb; have n3_ := lB hb; have n4_ := Aside0.mk (hbox); have n5_ := sA hg; have n6_ := sA hg; have n7_ := nA hg BK363; have n8_ := nB hg BK363; have n9_ := nA hg BK364; have n10_ := nB hg BK364; have n11_ := nA hg BK365; have n12_ := nB hg BK365; clear BK363; clear BK364; clear BK365; clear HB; have BK363 := n0_; have BK364 := n1_; have BK365 := n2_; have HB := n3_; have BK369 := n4_; have GW369 := n5_; have GE369 := n6_; have NB363_369 := n7_; have NB369_363 := n8_; have NB364_369 := n9_; have NB369_364 := n10_; have NB365_369 := n11_; have NB369_365 := n12_; clear n0_ n1_ n2_ n3_ n4_ n5_ n6_ n7_ n8_ n9_ n10_ n11_ n12_; clear hb hbox hg; have hnb19 := NB369_363.out; have hnc19 := NB363_369.out; have hnb20 := NB369_364.out; have hnc20 := NB364_369.out; have hnb21 := NB369_365.out; have hnc21 := NB365_369.out; obtain ⟨hcz22_0, hcz22_1, hfz22_0, hfz22_1⟩ := cz2 BK369; obtain ⟨hcz23_0, hcz23_1, hcz23_2, hcz23_3, hfz23_0, hfz23_1, hfz23_2, hfz23_3⟩ := cz4 BK363) | ((with_reducible refine gate_dst (N := 12) rfl ?_); refine box_event ?hg (N := 12) ?hd (cs := #[.int .i64 0, .int .i64 0]) (t := 22) ?hr ?_; (case hd => rfl); (case hg => rfl); (case hr => first | (go_simp; done) | (go_simp; rfl)); intro gb370 hg w24 hbox hb; have n0_ := Aside0.mk (blk_below (g := gb363) (o := .cells #[.int .i64 a1_0, .int .i64 a1_1, .int .i64 a1_2, .int .i64 a1_3] 26 (0, 0)) (bkF BK363) hb); have n1_ := Aside0.mk (blk_below (g := gb364) (o := .cells #[.int .i64 a2_0, .int .i64 a2_1, .int .i64 a2_2] 39 (0, 0)) (bkF BK364) hb); have n2_ := Aside0.mk (blk_below (g := gb365) (o := .cells #[.int .i64 0, .int .i64 0, .int .i64 0] 39 (0, 0)) (bkF BK365) hb); have n3_ := Aside0.mk (blk_below (g := gb369) (o := .cells #[.int .i64 (wrap64 (a1_0 * t368)), .int .i64 (wrap64 (a1_2 * t368))] 22 (0, 0)) (by refine dr ?_; refine blk_put (cs := #[.int .i64 (wrap64 (a1_0 * t368)), .int .i64 0]) ?_ 1 _ rfl; refine dr ?_; refine blk_put (cs := #[.int .i64 0, .int .i64 0]) ?_ 0 _ rfl; exact bkA BK369) hb); have n4_ := lB hb; have n5_ := Aside0.mk (hbox); have n6_ := sA hg; have n7_ := sA hg; have n8_ := Aside0.mk ((by rw [hg]; exact Nat.ne_of_lt (blk_lt (g := gb363) (o := .cells #[.int .i64 a1_0, .int .i64 a1_1, .int .i64 a1_2, .int .i64 a1_3] 26 (0, 0)) (bkF BK363)) : gb363 ≠ gb370)); have n9_ := Aside0.mk ((by rw [hg]; exact Nat.ne_of_gt (blk_lt (g := gb363) (o := .cells #[.int .i64 a1_0, .int .i64 a1_1, .int .i64 a1_2, .int .i64 a1_3] 26 (0, 0)) (bkF BK363)) : gb370 ≠ gb363)); have n10_ := Aside0.mk ((by rw [hg]; exact Nat.ne_of_lt (blk_lt (g := gb364) (o := .cells #[.int .i64 a2_0, .int .i64 a2_1, .int .i64 a2_2] 39 (0, 0)) (bkF BK364)) : gb364 ≠ gb370)); have n11_ := Aside0.mk ((by rw [hg]; exact Nat.ne_of_gt (blk_lt (g := gb364) (o := .cells #[.int .i64 a2_0, .int .i64 a2_1, .int .i64 a2_2] 39 (0, 0)) (bkF BK364)) : gb370 ≠ gb364)); have n12_ := Aside0.mk ((by rw [hg]; exact Nat.ne_of_lt (blk_lt (g := gb365) (o := .cells #[.int .i64 0, .int .i64 0, .int .i64 0] 39 (0, 0)) (bkF BK365)) : gb365 ≠ gb370)); have n13_ := Aside0.mk ((by rw [hg]; exact Nat.ne_of_gt (blk_lt (g := gb365) (o := .cells #[.int .i64 0, .int .i64 0, .int .i64 0] 39 (0, 0)) (bkF BK365)) : gb370 ≠ gb365)); have n14_ := Aside0.mk ((by rw [hg]; exact Nat.ne_of_lt (blk_lt (g := gb369) (o := .cells #[.int .i64 (wrap64 (a1_0 * t368)), .int .i64 (wrap64 (a1_2 * t368))] 22 (0, 0)) (by refine dr ?_; refine blk_put (cs := #[.int .i64 (wrap64 (a1_0 * t368)), .int .i64 0]) ?_ 1 _ rfl; refine dr ?_; refine blk_put (cs := #[.int .i64 0, .int .i64 0]) ?_ 0 _ rfl; exact bkA BK369)) : gb369 ≠ gb370)); have n15_ := Aside0.mk ((by rw [hg]; exact Nat.ne_of_gt (blk_lt (g := gb369) (o := .cells #[.int .i64 (wrap64 (a1_0 * t368)), .int .i64 (wrap64 (a1_2 * t368))] 22 (0, 0)) (by refine dr ?_; refine blk_put (cs := #[.int .i64 (wrap64 (a1_0 * t368)), .int .i64 0]) ?_ 1 _ rfl; refine dr ?_; refine blk_put (cs := #[.int .i64 0, .int .i64 0]) ?_ 0 _ rfl; exact bkA BK369)) : gb370 ≠ gb369)); clear BK363; clear BK364; clear BK365; clear BK369; clear HB; have BK363 := n0_; have BK364 := n1_; have BK365 := n2_; have BK369 := n3_; have HB := n4_; have BK370 := n5_; have GW370 := n6_; have GE370 := n7_; have NB363_370 := n8_; have NB370_363 := n9_; have NB364_370 := n10_; have NB370_364 := n11_; have NB365_370 := n12_; have NB370_365 := n13_; have NB369_370 := n14_; have NB370_369 := n15_; clear n0_ n1_ n2_ n3_ n4_ n5_ n6_ n7_ n8_ n9_ n10_ n11_ n12_ n13_ n14_ n15_; clear hb hbox hg; have hnb25 := NB370_363.out; have hnc25 := NB363_370.out; have hnb26 := NB370_364.out; have hnc26 := NB364_370.out; have hnb27 := NB370_365.out; have hnc27 := NB365_370.out; have hnb28 := NB370_369.out; have hnc28 := NB369_370.out; obtain ⟨hcz29_0, hcz29_1, hfz29_0, hfz29_1⟩ := cz2 BK370))
 have n0_ : Aside0 (((w24.setCell ⟨gb370, 0, none⟩ (.int .i64 (wrap64 ((wrap64 (a1_0 * t366)) + (wrap64 (a1_1 * t367)))))).setCell ⟨gb370, 1, none⟩ (.int .i64 (wrap64 ((wrap64 (a1_2 * t366)) + (wrap64 (a1_3 * t367)))))).heap[gb363]? = some (.cells #[.int .i64 a1_0, .int .i64 a1_1, .int .i64 a1_2, .int .i64 a1_3] 26 (0, 0))) := ⟨bkF BK363⟩
 have n1_ : Aside0 (((w24.setCell ⟨gb370, 0, none⟩ (.int .i64 (wrap64 ((wrap64 (a1_0 * t366)) + (wrap64 (a1_1 * t367)))))).setCell ⟨gb370, 1, none⟩ (.int .i64 (wrap64 ((wrap64 (a1_2 * t366)) + (wrap64 (a1_3 * t367)))))).heap[gb364]? = some (.cells #[.int .i64 a2_0, .int .i64 a2_1, .int .i64 a2_2] 39 (0, 0))) := ⟨bkF BK364⟩
 have n2_ : Aside0 (((w24.setCell ⟨gb370, 0, none⟩ (.int .i64 (wrap64 ((wrap64 (a1_0 * t366)) + (wrap64 (a1_1 * t367)))))).setCell ⟨gb370, 1, none⟩ (.int .i64 (wrap64 ((wrap64 (a1_2 * t366)) + (wrap64 (a1_3 * t367)))))).heap[gb365]? = some (.cells #[.int .i64 0, .int .i64 0, .int .i64 0] 39 (0, 0))) := ⟨bkF BK365⟩
 have n3_ : Aside0 (((w24.setCell ⟨gb370, 0, none⟩ (.int .i64 (wrap64 ((wrap64 (a1_0 * t366)) + (wrap64 (a1_1 * t367)))))).setCell ⟨gb370, 1, none⟩ (.int .i64 (wrap64 ((wrap64 (a1_2 * t366)) + (wrap64 (a1_3 * t367)))))).heap[gb369]? = some (.cells #[.int .i64 (wrap64 (a1_0 * t368)), .int .i64 (wrap64 (a1_2 * t368))] 22 (0, 0))) := ⟨bkF BK369⟩
 have n4_ : Aside0 (((w24.setCell ⟨gb370, 0, none⟩ (.int .i64 (wrap64 ((wrap64 (a1_0 * t366)) + (wrap64 (a1_1 * t367)))))).setCell ⟨gb370, 1, none⟩ (.int .i64 (wrap64 ((wrap64 (a1_2 * t366)) + (wrap64 (a1_3 * t367)))))).heap[gb370]? = some (.cells #[.int .i64 (wrap64 ((wrap64 (a1_0 * t366)) + (wrap64 (a1_1 * t367)))), .int .i64 (wrap64 ((wrap64 (a1_2 * t366)) + (wrap64 (a1_3 * t367))))] 22 (0, 0))) := ⟨by refine dr ?_; refine blk_put (cs := #[.int .i64 (wrap64 ((wrap64 (a1_0 * t366)) + (wrap64 (a1_1 * t367)))), .int .i64 0]) ?_ 1 _ rfl; refine dr ?_; refine blk_put (cs := #[.int .i64 0, .int .i64 0]) ?_ 0 _ rfl; exact bkA BK370⟩
 have n5_ : Aside0 (Below w.heap.size w ((w24.setCell ⟨gb370, 0, none⟩ (.int .i64 (wrap64 ((wrap64 (a1_0 * t366)) + (wrap64 (a1_1 * t367)))))).setCell ⟨gb370, 1, none⟩ (.int .i64 (wrap64 ((wrap64 (a1_2 * t366)) + (wrap64 (a1_3 * t367))))))) := ⟨blA⟩
 (try clear BK363)
 (try clear BK364)
 (try clear BK365)
 (try clear BK369)
 (try clear BK370)
 (try clear HB)
 generalize ((w24.setCell ⟨gb370, 0, none⟩ (.int .i64 (wrap64 ((wrap64 (a1_0 * t366)) + (wrap64 (a1_1 * t367)))))).setCell ⟨gb370, 1, none⟩ (.int .i64 (wrap64 ((wrap64 (a1_2 * t366)) + (wrap64 (a1_3 * t367)))))) = w30 at n0_ n1_ n2_ n3_ n4_ n5_ ⊢
 have BK363 := n0_
 have BK364 := n1_
 have BK365 := n2_
 have BK369 := n3_
 have BK370 := n4_
 have HB := n5_
 clear n0_ n1_ n2_ n3_ n4_ n5_
 have n0_ := Aside0.mk (blk_drew BK363.out)
 have n1_ := Aside0.mk (blk_drew BK364.out)
 have n2_ := Aside0.mk (blk_drew BK365.out)
 have n3_ := Aside0.mk (blk_drew BK369.out)
 have n4_ := Aside0.mk (blk_drew BK370.out)
 have n5_ := Aside0.mk (below_drew1 HB.out)
 clear BK363
 clear BK364
 clear BK365
 clear BK369
 clear BK370
 clear HB
 have BK363 := n0_
 have BK364 := n1_
 have BK365 := n2_
 have BK369 := n3_
 have BK370 := n4_
 have HB := n5_
 clear n0_ n1_ n2_ n3_ n4_ n5_
 refine start_ (n := 9) (S := fun w' => w'.cell? ⟨gb370, 0, none⟩ = some (.int .i64 (wrap64 ((wrap64 (a1_0 * t366)) + (wrap64 (a1_1 * t367))))) ∧ w'.cell? ⟨gb370, 1, none⟩ = some (.int .i64 (wrap64 ((wrap64 (a1_2 * t366)) + (wrap64 (a1_3 * t367))))) ∧ w'.cell? ⟨gb369, 0, none⟩ = some (.int .i64 (wrap64 (a1_0 * t368))) ∧ w'.cell? ⟨gb369, 1, none⟩ = some (.int .i64 (wrap64 (a1_2 * t368)))) (ds := []) #[Z, Z, Z, Z, Z, Z, Z, Z, Z] (by kernel_rfl) rfl rfl ⟨cA BK370 0, cA BK370 1, cA BK369 0, cA BK369 1⟩ (fun hHeld => ?_); refine with_tabW impl_moveBall.tab4 impl_moveBall.bits4 (fun HT_ HW_ => ?_)
 generalize w30.drew = w31 at BK363 BK364 BK365 BK369 BK370 HB hHeld ⊢
 refine puA (i := 0) (N := some 58) #[Y, Z, Z, Z, Z, Z, Z, Z, Z] rfl rfl HT_ ?_
 refine puA (i := 1) (N := some 59) #[Y, Y, Z, Z, Z, Z, Z, Z, Z] rfl rfl HT_ ?_
 refine puA (i := 4) (N := some 62) #[Y, Y, Z, Z, Y, Z, Z, Z, Z] rfl rfl HT_ ?_
 refine puA (i := 5) (N := some 63) #[Y, Y, Z, Z, Y, Y, Z, Z, Z] rfl rfl HT_ ?_
 refine take_ (i := 2) (N := some 60) (v := ?_) (a' := ?_) #[Y, Y, Y, Z, Y, Y, Z, Z, Z] rfl rfl (take_ofW HT_.out HW_.out (by kernel_rfl)) (fun _ _ _ h => h) (Or.inl ⟨by rfl, ?_⟩) hHeld ?_ ?_
 rotate_left
 ·
  rintro w' ⟨s0, s1, s2, s3⟩
  go_simp
  with_reducible rfl
 rotate_left
 ·
  simp only [pA]
  rfl
 refine take_ (i := 6) (N := some 64) (v := ?_) (a' := ?_) #[Y, Y, Y, Z, Y, Y, Y, Z, Z] rfl rfl (take_ofW HT_.out HW_.out (by kernel_rfl)) (fun _ _ _ h => h) (Or.inl ⟨by rfl, ?_⟩) hHeld ?_ ?_
 rotate_left
 ·
  rintro w' ⟨s0, s1, s2, s3⟩
  go_simp
  with_reducible rfl
 rotate_left
 ·
  simp only [pA]
  rfl
 refine one_ (i := 3) (N := some 61) #[Y, Y, Y, Y, Y, Y, Y, Z, Z] rfl rfl (one_of HT_.out (by kernel_rfl)) (by decide) (fun K hK => ?_)
 refine goes_ Try.func123 (by kernel_rfl) rfl #[.int .i64 a0, .int .i64 (wrap64 ((wrap64 (a1_2 * t366)) + (wrap64 (a1_3 * t367))))] (by rfl) rfl rfl hA ?_
 with_reducible refine (impl_valuation.calls k a0 (wrap64 ((wrap64 (a1_2 * t366)) + (wrap64 (a1_3 * t367)))) t371 _ A7.out).mono ?_
 rintro e w' ⟨rfl, ⟨nd, rfl⟩⟩
 refine ⟨_, rfl, ?_⟩
 refine hK.out _ _ ⟨cA BK370 0, cA BK370 1, cA BK369 0, cA BK369 1⟩ (fun hHeld => ?_)
 clear hK K
 refine norm_ (a' := ?_) ?_ ?_
 rotate_left
 ·
  show Act.put _ (some 61) _ = _
  simp only [pA]
  rfl
 refine one_ (i := 7) (N := some 65) #[Y, Y, Y, Y, Y, Y, Y, Y, Z] rfl rfl (one_of HT_.out (by kernel_rfl)) (by decide) (fun K hK => ?_)
 refine goes_ Try.func123 (by kernel_rfl) rfl #[.int .i64 a0, .int .i64 (wrap64 (a1_2 * t368))] (by rfl) rfl rfl hA ?_
 with_reducible refine (impl_valuation.calls k a0 (wrap64 (a1_2 * t368)) t372 _ A8.out).mono ?_
 rintro e w' ⟨rfl, ⟨nd, rfl⟩⟩
 refine ⟨_, rfl, ?_⟩
 refine hK.out _ _ ⟨cA BK370 0, cA BK370 1, cA BK369 0, cA BK369 1⟩ (fun hHeld => ?_)
 clear hK K
 refine norm_ (a' := ?_) ?_ ?_
 rotate_left
 ·
  show Act.put _ (some 65) _ = _
  simp only [pA]
  rfl
 refine puA (i := 8) (N := some 66) #[Y, Y, Y, Y, Y, Y, Y, Y, Y] rfl rfl HT_ ?_
 refine done_ (done_of HT_.out (by kernel_rfl)) ?_
 go_upto_if 66 with (fail)
 go_cut [] (fun wc => ∃ (kq : Nat) (x371000_8 : Int) (x371001_8 : Int), Aside0 (impl_moveBall.j0 kq a0 a1_0 a1_1 a1_2 a1_3 a2_0 a2_1 a2_2 x371000_8 x371001_8 = some (r1, r2, r3, r4)) ∧ Aside0 (kq ≤ k) ∧ Aside0 (wc.heap[gb363]? = some (.cells #[.int .i64 a1_0, .int .i64 a1_1, .int .i64 a1_2, .int .i64 a1_3] 26 (0, 0))) ∧ Aside0 (wc.heap[gb364]? = some (.cells #[.int .i64 a2_0, .int .i64 a2_1, .int .i64 a2_2] 39 (0, 0))) ∧ Aside0 (wc.heap[gb365]? = some (.cells #[.int .i64 0, .int .i64 0, .int .i64 0] 39 (0, 0))) ∧ Aside0 (wc.heap[gb369]? = some (.cells #[.int .i64 (wrap64 (a1_0 * t368)), .int .i64 (wrap64 (a1_2 * t368))] 22 (0, 0))) ∧ Aside0 (wc.heap[gb370]? = some (.cells #[.int .i64 x371000_8, .int .i64 x371001_8] 22 (0, 0))) ∧ Aside0 (Below w.heap.size w wc))
 case first =>
  have H := HC9.out
  clear HC9
  by_cases c32 : t371 > t372
  ·
   rw [if_pos c32] at H
   have c32b0 : decide (t372 < t371) = true := decide_eq_true c32
   clear c32
   (first | rw [c32b0] | (simp only [i64_w, i32_w]; rw [c32b0]) | skip)
   have H' := Aside0.mk H
   clear H
   have hnb33 := NB369_363.out
   have hnc33 := NB363_369.out
   have hnb34 := NB369_364.out
   have hnc34 := NB364_369.out
   have hnb35 := NB369_365.out
   have hnc35 := NB365_369.out
   have hnb36 := NB369_370.out
   have hnc36 := NB370_369.out
   obtain ⟨hcz37_0, hcz37_1, hfz37_0, hfz37_1⟩ := cz2 BK369
   have hnb38 := NB370_363.out
   have hnc38 := NB363_370.out
   have hnb39 := NB370_364.out
   have hnc39 := NB364_370.out
   have hnb40 := NB370_365.out
   have hnc40 := NB365_370.out
   have hcz41_0 : w31.cell? ⟨gb370, 0, none⟩ = some (.int .i64 (wrap64 ((wrap64 (a1_0 * t366)) + (wrap64 (a1_1 * t367))))) := cA BK370 0
   have hcz41_1 : w31.cell? ⟨gb370, 1, none⟩ = some (.int .i64 (wrap64 ((wrap64 (a1_2 * t366)) + (wrap64 (a1_3 * t367))))) := cA BK370 1
   have hfz41_0 := blk_frozen BK370.out 0
   have hfz41_1 := blk_frozen BK370.out 1
   go_wp2
   go_meet
   case rel => exact ⟨_, (wrap64 (a1_0 * t368)), (wrap64 (a1_2 * t368)), H', ⟨by first | omega | exact Nat.le_refl _⟩, ⟨bkF BK363⟩, ⟨bkF BK364⟩, ⟨bkF BK365⟩, ⟨bkF BK369⟩, ⟨by refine dr ?_; refine blk_put (cs := #[.int .i64 (wrap64 (a1_0 * t368)), .int .i64 (wrap64 ((wrap64 (a1_2 * t366)) + (wrap64 (a1_3 * t367))))]) ?_ 1 _ rfl; refine dr ?_; refine blk_put (cs := #[.int .i64 (wrap64 ((wrap64 (a1_0 * t366)) + (wrap64 (a1_1 * t367)))), .int .i64 (wrap64 ((wrap64 (a1_2 * t366)) + (wrap64 (a1_3 * t367))))]) ?_ 0 _ rfl; exact bkA BK370⟩, ⟨blA⟩⟩
  ·
   rw [if_neg c32] at H
   have c32b0 : decide (t372 < t371) = false := decide_eq_false c32
   clear c32
   (first | rw [c32b0] | (simp only [i64_w, i32_w]; rw [c32b0]) | skip)
   have H' := Aside0.mk H
   clear H
   go_wp2
   go_meet
   case rel => exact ⟨_, (wrap64 ((wrap64 (a1_0 * t366)) + (wrap64 (a1_1 * t367)))), (wrap64 ((wrap64 (a1_2 * t366)) + (wrap64 (a1_3 * t367)))), H', ⟨by first | omega | exact Nat.le_refl _⟩, ⟨bkA BK363⟩, ⟨bkA BK364⟩, ⟨bkA BK365⟩, ⟨bkA BK369⟩, ⟨bkA BK370⟩, ⟨blA⟩⟩
 case rest =>
  clear HC9
  try clear c32
  try clear c32b0
  try clear hcz17_0
  try clear hcz17_1
  try clear hcz17_2
  try clear hcz17_3
  try clear hcz22_0
  try clear hcz22_1
  try clear hcz23_0
  try clear hcz23_1
  try clear hcz23_2
  try clear hcz23_3
  try clear hcz29_0
  try clear hcz29_1
  try clear hcz37_0
  try clear hcz37_1
  try clear hcz41_0
  try clear hcz41_1
  try clear hfz17_0
  try clear hfz17_1
  try clear hfz17_2
  try clear hfz17_3
  try clear hfz22_0
  try clear hfz22_1
  try clear hfz23_0
  try clear hfz23_1
  try clear hfz23_2
  try clear hfz23_3
  try clear hfz29_0
  try clear hfz29_1
  try clear hfz37_0
  try clear hfz37_1
  try clear hfz41_0
  try clear hfz41_1
  obtain ⟨kq, x371000_8, x371001_8, HA, HJ8, BK363, BK364, BK365, BK369, BK370, HB⟩ := hcut
  cases kq with
  | zero => exact absurd HA.out (by simp [impl_moveBall.j0])
  | succ kj8 =>
   have H := HA.out
   clear HA
   simp only [impl_moveBall.j0] at H
   replace H := bS H
   obtain ⟨t373, A42, H⟩ := H
   try dsimp only at H
   replace H := bS H
   obtain ⟨t374, A43, H⟩ := H
   try dsimp only at H
   replace H := bS H
   obtain ⟨t375, A44, H⟩ := H
   try dsimp only at H
   replace H := bS H
   obtain ⟨⟨t376, t377, t378, t379⟩, A45, H⟩ := H
   try dsimp only at H
   simp only [Option.some.injEq, Prod.mk.injEq] at H
   obtain ⟨rfl, rfl, rfl, rfl⟩ := H
   try go_wp2
   have n0_ := Aside0.mk (blk_drew BK363.out)
   have n1_ := Aside0.mk (blk_drew BK364.out)
   have n2_ := Aside0.mk (blk_drew BK365.out)
   have n3_ := Aside0.mk (blk_drew BK369.out)
   have n4_ := Aside0.mk (blk_drew BK370.out)
   have n5_ := Aside0.mk (below_drew1 HB.out)
   clear BK363
   clear BK364
   clear BK365
   clear BK369
   clear BK370
   clear HB
   have BK363 := n0_
   have BK364 := n1_
   have BK365 := n2_
   have BK369 := n3_
   have BK370 := n4_
   have HB := n5_
   clear n0_ n1_ n2_ n3_ n4_ n5_
   refine start_ (n := 15) (S := fun w' => w'.cell? ⟨gb363, 0, none⟩ = some (.int .i64 a1_0) ∧ w'.cell? ⟨gb363, 1, none⟩ = some (.int .i64 a1_1) ∧ w'.cell? ⟨gb363, 2, none⟩ = some (.int .i64 a1_2) ∧ w'.cell? ⟨gb363, 3, none⟩ = some (.int .i64 a1_3) ∧ w'.cell? ⟨gb364, 0, none⟩ = some (.int .i64 a2_0) ∧ w'.cell? ⟨gb364, 1, none⟩ = some (.int .i64 a2_1) ∧ w'.cell? ⟨gb364, 2, none⟩ = some (.int .i64 a2_2) ∧ w'.cell? ⟨gb370, 0, none⟩ = some (.int .i64 x371000_8) ∧ w'.cell? ⟨gb370, 1, none⟩ = some (.int .i64 x371001_8)) (ds := []) #[Z, Z, Z, Z, Z, Z, Z, Z, Z, Z, Z, Z, Z, Z, Z] (by kernel_rfl) rfl rfl ⟨cA BK363 0, cA BK363 1, cA BK363 2, cA BK363 3, cA BK364 0, cA BK364 1, cA BK364 2, cA BK370 0, cA BK370 1⟩ (fun hHeld => ?_); refine with_tabW impl_moveBall.tab6 impl_moveBall.bits6 (fun HT_ HW_ => ?_)
   generalize wc.drew = w46 at BK363 BK364 BK365 BK369 BK370 HB hHeld ⊢
   refine puA (i := 0) (N := some 68) #[Y, Z, Z, Z, Z, Z, Z, Z, Z, Z, Z, Z, Z, Z, Z] rfl rfl HT_ ?_
   refine puA (i := 4) (N := some 72) #[Y, Z, Z, Z, Y, Z, Z, Z, Z, Z, Z, Z, Z, Z, Z] rfl rfl HT_ ?_
   refine puA (i := 8) (N := some 76) #[Y, Z, Z, Z, Y, Z, Z, Z, Y, Z, Z, Z, Z, Z, Z] rfl rfl HT_ ?_
   refine puA (i := 9) (N := some 77) #[Y, Z, Z, Z, Y, Z, Z, Z, Y, Y, Z, Z, Z, Z, Z] rfl rfl HT_ ?_
   refine take_ (i := 1) (N := some 69) (v := ?_) (a' := ?_) #[Y, Y, Z, Z, Y, Z, Z, Z, Y, Y, Z, Z, Z, Z, Z] rfl rfl (take_ofW HT_.out HW_.out (by kernel_rfl)) (fun _ _ _ h => h) (Or.inl ⟨by rfl, ?_⟩) hHeld ?_ ?_
   rotate_left
   ·
    rintro w' ⟨s0, s1, s2, s3, s4, s5, s6, s7, s8⟩
    go_simp
    with_reducible rfl
   rotate_left
   ·
    simp only [pA]
    rfl
   refine take_ (i := 5) (N := some 73) (v := ?_) (a' := ?_) #[Y, Y, Z, Z, Y, Y, Z, Z, Y, Y, Z, Z, Z, Z, Z] rfl rfl (take_ofW HT_.out HW_.out (by kernel_rfl)) (fun _ _ _ h => h) (Or.inl ⟨by rfl, ?_⟩) hHeld ?_ ?_
   rotate_left
   ·
    rintro w' ⟨s0, s1, s2, s3, s4, s5, s6, s7, s8⟩
    go_simp
    with_reducible rfl
   rotate_left
   ·
    simp only [pA]
    rfl
   refine take_ (i := 10) (N := some 78) (v := ?_) (a' := ?_) #[Y, Y, Z, Z, Y, Y, Z, Z, Y, Y, Y, Z, Z, Z, Z] rfl rfl (take_ofW HT_.out HW_.out (by kernel_rfl)) (fun _ _ _ h => h) (Or.inl ⟨by rfl, ?_⟩) hHeld ?_ ?_
   rotate_left
   ·
    rintro w' ⟨s0, s1, s2, s3, s4, s5, s6, s7, s8⟩
    go_simp
    with_reducible rfl
   rotate_left
   ·
    simp only [pA]
    rfl
   refine one_ (i := 2) (N := some 70) #[Y, Y, Y, Z, Y, Y, Z, Z, Y, Y, Y, Z, Z, Z, Z] rfl rfl (one_of HT_.out (by kernel_rfl)) (by decide) (fun K hK => ?_)
   refine goes_ Try.func124 (by kernel_rfl) rfl #[.agg #[.int .i64 a1_0, .int .i64 a1_1, .int .i64 a1_2, .int .i64 a1_3]] (by rfl) rfl rfl hA ?_
   with_reducible refine (impl_determinant.calls a1_0 a1_1 a1_2 a1_3 t373 _ A42.out).mono ?_
   rintro e w47 ⟨rfl, hb⟩
   refine ⟨_, rfl, ?_⟩
   replace BK363 := kB BK363 hb
   replace BK364 := kB BK364 hb
   replace BK365 := kB BK365 hb
   replace BK369 := kB BK369 hb
   replace BK370 := kB BK370 hb
   replace HB := lB hb
   (try clear hb)
   (try clear hb2)
   (try clear hk)
   (try clear hi)
   refine hK.out _ _ ⟨cA BK363 0, cA BK363 1, cA BK363 2, cA BK363 3, cA BK364 0, cA BK364 1, cA BK364 2, cA BK370 0, cA BK370 1⟩ (fun hHeld => ?_)
   clear hK K
   refine norm_ (a' := ?_) ?_ ?_
   rotate_left
   ·
    show Act.put _ (some 70) _ = _
    simp only [pA]
    rfl
   refine one_ (i := 3) (N := some 71) #[Y, Y, Y, Y, Y, Y, Z, Z, Y, Y, Y, Z, Z, Z, Z] rfl rfl (one_of HT_.out (by kernel_rfl)) (by decide) (fun K hK => ?_)
   refine goes_ Try.func123 (by kernel_rfl) rfl #[.int .i64 a0, .int .i64 t373] (by rfl) rfl rfl hA ?_
   with_reducible refine (impl_valuation.calls kj8 a0 t373 t374 _ A43.out).mono ?_
   rintro e w' ⟨rfl, ⟨nd, rfl⟩⟩
   refine ⟨_, rfl, ?_⟩
   refine hK.out _ _ ⟨cA BK363 0, cA BK363 1, cA BK363 2, cA BK363 3, cA BK364 0, cA BK364 1, cA BK364 2, cA BK370 0, cA BK370 1⟩ (fun hHeld => ?_)
   clear hK K
   refine norm_ (a' := ?_) ?_ ?_
   rotate_left
   ·
    show Act.put _ (some 71) _ = _
    simp only [pA]
    rfl
   refine puA (i := 6) (N := some 74) #[Y, Y, Y, Y, Y, Y, Y, Z, Y, Y, Y, Z, Z, Z, Z] rfl rfl HT_ ?_
   refine puA (i := 7) (N := some 75) #[Y, Y, Y, Y, Y, Y, Y, Y, Y, Y, Y, Z, Z, Z, Z] rfl rfl HT_ ?_
   refine one_ (i := 11) (N := some 79) #[Y, Y, Y, Y, Y, Y, Y, Y, Y, Y, Y, Y, Z, Z, Z] rfl rfl (one_of HT_.out (by kernel_rfl)) (by decide) (fun K hK => ?_)
   refine goes_ Try.func123 (by kernel_rfl) rfl #[.int .i64 a0, .int .i64 x371001_8] (by rfl) rfl rfl hA ?_
   with_reducible refine (impl_valuation.calls kj8 a0 x371001_8 t375 _ A44.out).mono ?_
   rintro e w' ⟨rfl, ⟨nd, rfl⟩⟩
   refine ⟨_, rfl, ?_⟩
   refine hK.out _ _ ⟨cA BK363 0, cA BK363 1, cA BK363 2, cA BK363 3, cA BK364 0, cA BK364 1, cA BK364 2, cA BK370 0, cA BK370 1⟩ (fun hHeld => ?_)
   clear hK K
   refine norm_ (a' := ?_) ?_ ?_
   rotate_left
   ·
    show Act.put _ (some 79) _ = _
    simp only [pA]
    rfl
   refine puA (i := 12) (N := some 80) #[Y, Y, Y, Y, Y, Y, Y, Y, Y, Y, Y, Y, Y, Z, Z] rfl rfl HT_ ?_
   refine puA (i := 13) (N := some 81) #[Y, Y, Y, Y, Y, Y, Y, Y, Y, Y, Y, Y, Y, Y, Z] rfl rfl HT_ ?_
   refine puA (i := 14) (N := some 13) #[Y, Y, Y, Y, Y, Y, Y, Y, Y, Y, Y, Y, Y, Y, Y] rfl rfl HT_ ?_
   refine done_ (done_of HT_.out (by kernel_rfl)) ?_
   have hnb48 := NB370_363.out
   have hnc48 := NB363_370.out
   have hnb49 := NB370_364.out
   have hnc49 := NB364_370.out
   have hnb50 := NB370_365.out
   have hnc50 := NB365_370.out
   have hnb51 := NB370_369.out
   have hnc51 := NB369_370.out
   obtain ⟨hcz52_0, hcz52_1, hfz52_0, hfz52_1⟩ := cz2 BK370
   try go_wp2_with (first | ((with_reducible refine gate_callee (f := 125) rfl ?_); refine goesL_ (some 88) rfl rfl Try.func125 (by kernel_rfl) rfl #[.int .i64 a0, .int .i64 x371000_8, .int .i64 x371001_8, .int .i64 (wrap64 ((wrap64 ((wrap64 (t374 + a2_0)) + 12)) - (wrap64 (2 * t375))))] rfl hA ?_; (with_reducible refine (impl_ballAt.calls kj8 a0 x371000_8 x371001_8 (wrap64 ((wrap64 ((wrap64 (t374 + a2_0)) + 12)) - (wrap64 (2 * t375)))) t376 t377 t378 t379 _ A45.out).mono ?_); rintro e w53 ⟨rfl, hb⟩; refine ⟨_, rfl, ?_⟩; have n0_ := kB BK363 hb; have n1_ := kB BK364 hb; have n2_ := kB BK365 hb; have n3_ := kB BK369 hb; have n4_ := kB BK370 hb; have n5_ := lB hb; clear BK363; clear BK364; clear BK365; clear BK369; clear BK370; clear HB; have BK363 := n0_; have BK364 := n1_; have BK365 := n2_; have BK369 := n3_; have BK370 := n4_; have HB := n5_; clear n0_ n1_ n2_ n3_ n4_ n5_; (try clear hb); (try clear hb2); (try clear hk); (try clear hi); have hnb54 := NB365_363.out; have hnc54 := NB363_365.out; have hnb55 := NB365_364.out; have hnc55 := NB364_365.out; have hnb56 := NB365_369.out; have hnc56 := NB369_365.out; obtain ⟨hcz57_0, hcz57_1, hcz57_2, hfz57_0, hfz57_1, hfz57_2⟩ := cz3 BK365))
   refine bodyPost_ret (results_ct rfl _ _ gb365 39 #[.int .i64 t376, .int .i64 t377, .int .i64 t378] (0, 0) _ rfl (by refine dr ?_; refine blk_put (cs := #[.int .i64 t376, .int .i64 t377, .int .i64 0]) ?_ 2 _ rfl; refine dr ?_; refine blk_put (cs := #[.int .i64 t376, .int .i64 0, .int .i64 0]) ?_ 1 _ rfl; refine dr ?_; refine blk_put (cs := #[.int .i64 0, .int .i64 0, .int .i64 0]) ?_ 0 _ rfl; exact bkA BK365) Try.underlying39 rfl (by kernel_rfl)) rfl ?_
   exact finA blA
/-! ### impl_inverted: function 90 -/
def impl_inverted.f (k : Nat) (a0_0 : Int) (a0_1 : Int) (a0_2 : Int) (a0_3 : Int) : Option (Int × Int × Int × Int) := (impl_reduce.f k a0_3 (wrap64 (-a0_1)) (wrap64 (-a0_2)) a0_0).bind fun bt970 => (some (bt970.1, bt970.2.1, bt970.2.2.1, bt970.2.2.2))
theorem impl_inverted.mono : ∀ a0 a1 a2 a3 k, LeO (impl_inverted.f k a0 a1 a2 a3) (impl_inverted.f (k + 1) a0 a1 a2 a3) := by
 intro a0 a1 a2 a3 k
 unfold impl_inverted.f
 repeat' first
   | (with_reducible exact impl_reduce.mono _ _ _ _ _)
   | (with_reducible exact LeO.refl _)
   | (with_reducible exact LeO.none _)
   | (with_reducible refine LeO.ite ?_ ?_)
   | (with_reducible refine LeO.bind ?_ (fun _ => ?_))
set_option maxHeartbeats 8000000 in
set_option maxRecDepth 100000 in
theorem impl_inverted.calls (k : Nat) (a0_0 : Int) (a0_1 : Int) (a0_2 : Int) (a0_3 : Int) (r1 : Int) (r2 : Int) (r3 : Int) (r4 : Int) (w : World) (h : impl_inverted.f k a0_0 a0_1 a0_2 a0_3 = some (r1, r2, r3, r4)) :
  Calls Try.prog 90 #[.agg #[.int .i64 a0_0, .int .i64 a0_1, .int .i64 a0_2, .int .i64 a0_3]] w fun e w' => e = .returned (.agg #[.int .i64 r1, .int .i64 r2, .int .i64 r3, .int .i64 r4]) ∧ Below w.heap.size w w' := by
 have hu26 := Try.underlying26
 have hu22 := Try.underlying22
 have HB := Aside0.mk (Below.refl w.heap.size w)
 have H := h
 unfold impl_inverted.f at H
 clear h
 replace H := bS H
 obtain ⟨⟨t970, t971, t972, t973⟩, A2, H⟩ := H
 try dsimp only at H
 simp only [Option.some.injEq, Prod.mk.injEq] at H
 obtain ⟨rfl, rfl, rfl, rfl⟩ := H
 go_enter Try.func90, Try.ntmps90
 go_wp2_with (first | ((with_reducible refine gate_dst (N := 1) rfl ?_); refine box_event ?hg (N := 1) ?hd (cs := #[.int .i64 a0_0, .int .i64 a0_1, .int .i64 a0_2, .int .i64 a0_3]) (t := 26) ?hr ?_; (case hd => rfl); (case hg => rfl); (case hr => first | (go_simp; done) | (go_simp; rfl)); intro gb968 hg w3 hbox hb; have BK968 := Aside0.mk (hbox); have GW968 := sA hg; have GE968 := sA hg; replace HB := lB hb; clear hb hbox hg) | ((with_reducible refine gate_dst (N := 2) rfl ?_); refine box_event ?hg (N := 2) ?hd (cs := #[.int .i64 0, .int .i64 0, .int .i64 0, .int .i64 0]) (t := 26) ?hr ?_; (case hd => rfl); (case hg => rfl); (case hr => first | (go_simp; done) | (go_simp; rfl)); intro gb969 hg w4 hbox hb; have BK969 := Aside0.mk (hbox); have GW969 := sA hg; have GE969 := sA hg; have NB968_969 := nA hg BK968; have NB969_968 := nB hg BK968; replace BK968 := kB BK968 hb; replace HB := lB hb; clear hb hbox hg; have hnb5 := NB968_969.out; have hnc5 := NB969_968.out; obtain ⟨hcz6_0, hcz6_1, hcz6_2, hcz6_3, hfz6_0, hfz6_1, hfz6_2, hfz6_3⟩ := cz4 BK968) | ((with_reducible refine gate_callee (f := 132) rfl ?_); refine goesL_ (some 20) rfl rfl Try.func132 (by kernel_rfl) rfl #[.agg #[.int .i64 a0_3, .int .i64 (wrap64 (-a0_1)), .int .i64 (wrap64 (-a0_2)), .int .i64 a0_0]] rfl hA ?_; (with_reducible refine (impl_reduce.calls k a0_3 (wrap64 (-a0_1)) (wrap64 (-a0_2)) a0_0 t970 t971 t972 t973 _ A2.out).mono ?_); rintro e w7 ⟨rfl, hb⟩; refine ⟨_, rfl, ?_⟩; replace BK968 := kB BK968 hb; replace BK969 := kB BK969 hb; replace HB := lB hb; (try clear hb); (try clear hb2); (try clear hk); (try clear hi); obtain ⟨hcz8_0, hcz8_1, hcz8_2, hcz8_3, hfz8_0, hfz8_1, hfz8_2, hfz8_3⟩ := cz4 BK969))
 refine bodyPost_ret (results_cell_row rfl _ _ gb969 26 #[.int .i64 t970, .int .i64 t971, .int .i64 t972, .int .i64 t973] (0, 0) _ rfl (by refine dr ?_; refine blk_put (cs := #[.int .i64 t970, .int .i64 t971, .int .i64 t972, .int .i64 0]) ?_ 3 _ rfl; refine dr ?_; refine blk_put (cs := #[.int .i64 t970, .int .i64 t971, .int .i64 0, .int .i64 0]) ?_ 2 _ rfl; refine dr ?_; refine blk_put (cs := #[.int .i64 t970, .int .i64 0, .int .i64 0, .int .i64 0]) ?_ 1 _ rfl; refine dr ?_; refine blk_put (cs := #[.int .i64 0, .int .i64 0, .int .i64 0, .int .i64 0]) ?_ 0 _ rfl; exact bkA BK969) Try.underlying26 rfl (by kernel_rfl)) rfl ?_
 exact finA blA
end Go.Proofs.Ytccpccnnbacgjaa.PAll
