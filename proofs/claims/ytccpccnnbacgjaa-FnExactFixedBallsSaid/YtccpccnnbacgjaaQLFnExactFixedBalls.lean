-- turned for this claim out of the kit's print: the same functions, packed anew
import Derived.Test.YtccpccnnbacgjaaQx
import Derived.Test.YtccpccnnbacgjaaQLeqBallS
import Derived.Test.YtccpccnnbacgjaaQLheldBallS
import Derived.Test.YtccpccnnbacgjaaQbitsLeadingZeros64
import Derived.Test.YtccpccnnbacgjaaQimplFixedBalls
namespace Go.Proofs.Ytccpccnnbacgjaa.PAll
open Go.RowKit Go.Proofs.YtccpccnnbacgjaaW.PrintWords Go.Proofs.YtccpccnnbacgjaaW.PrintLast Go.Proofs.YtccpccnnbacgjaaW.PrintMore
attribute [local go_sem] Go.Proofs.Ytccpccnnbacgjaa.Aux.setCell_drewN Go.Proofs.Ytccpccnnbacgjaa.Aux.isSome_setCell max2_int min2_int max_two min_two max_three min_three max_four min_four   -- for this text's walks alone
set_option linter.unusedVariables false
set_option linter.unusedSimpArgs false
/-! ### laws_FnExactFixedBalls: function 5 -/
mutual
def laws_FnExactFixedBalls.j0 : Nat → Int → Int → List (S39) → Int → List (S39) → Bool → Int → Int → Int → Int → Int → Int → Int → Option (Bool)
 | 0, _, _, _, _, _, _, _, _, _, _, _, _, _ => none
 | k + 1, x0, x3, x9, x10, x11, x45, x583000, x583001, x583002, x583003, x584000, x584001, x584002 => if x45 = true then (none) else ((laws_markBallS.f k x11 1).bind fun bt607 => ((laws_heldBallS.f k bt607.2 1).bind fun t609 => (if t609 < 0 then (none) else (if t609 = bt607.1 then ((laws_toMatrix.f x583000 x583001 x583002 x583003).bind fun bt610 => ((laws_toBall.f x584000 x584001 x584002).bind fun bt614 => ((impl_FixedBalls.f k x0 bt610.1 bt610.2.1 bt610.2.2.1 bt610.2.2.2 bt614.1 bt614.2.1 bt614.2.2 x3).bind fun bt617 => ((laws_eqBallS.f k bt617.1 x9).bind fun t621 => (if t621 = true then (laws_FnExactFixedBalls.j1 k bt607.2 bt607.1 (bt617.2 != x10)) else (laws_FnExactFixedBalls.j1 k bt607.2 bt607.1 true)))))) else (none)))))
def laws_FnExactFixedBalls.j1 : Nat → List (S39) → Int → Bool → Option (Bool)
 | 0, _, _, _ => none
 | k + 1, x11, x13, x75 => if x75 = true then (none) else ((laws_heldBallS.f k x11 1).bind fun t622 => (if t622 < 0 then (none) else (if t622 = x13 then (some true) else (none))))
end
def laws_FnExactFixedBalls.f (k : Nat) (a0 : Int) (a1_0 : Int) (a1_1 : Int) (a1_2 : Int) (a1_3 : Int) (a2_0 : Int) (a2_1 : Int) (a2_2 : Int) (a3 : Int) : Option (Bool) := (laws_toMatrix.f a1_0 a1_1 a1_2 a1_3).bind fun bt584 => ((laws_toBall.f a2_0 a2_1 a2_2).bind fun bt588 => ((spec_FixedBalls.f k a0 bt584.1 bt584.2.1 bt584.2.2.1 bt584.2.2.2 bt588.1 bt588.2.1 bt588.2.2 a3).bind fun bt591 => ((laws_toMatrix.f a1_0 a1_1 a1_2 a1_3).bind fun bt595 => ((laws_toBall.f a2_0 a2_1 a2_2).bind fun bt599 => ((impl_FixedBalls.f k a0 bt595.1 bt595.2.1 bt595.2.2.1 bt595.2.2.2 bt599.1 bt599.2.1 bt599.2.2 a3).bind fun bt602 => ((laws_eqBallS.f k bt602.1 bt591.1).bind fun t606 => (if t606 = true then (laws_FnExactFixedBalls.j0 k a0 a3 bt591.1 bt591.2 bt602.1 (bt602.2 != bt591.2) a1_0 a1_1 a1_2 a1_3 a2_0 a2_1 a2_2) else (laws_FnExactFixedBalls.j0 k a0 a3 bt591.1 bt591.2 bt602.1 true a1_0 a1_1 a1_2 a1_3 a2_0 a2_1 a2_2))))))))
theorem laws_FnExactFixedBalls.mono_l : ∀ k, (∀ y0 y1 y2 y3 y4 y5 y6 y7 y8 y9 y10 y11 y12, LeO (laws_FnExactFixedBalls.j0 k y0 y1 y2 y3 y4 y5 y6 y7 y8 y9 y10 y11 y12) (laws_FnExactFixedBalls.j0 (k + 1) y0 y1 y2 y3 y4 y5 y6 y7 y8 y9 y10 y11 y12)) ∧ (∀ y0 y1 y2, LeO (laws_FnExactFixedBalls.j1 k y0 y1 y2) (laws_FnExactFixedBalls.j1 (k + 1) y0 y1 y2))
 | 0 => ⟨fun _ _ _ _ _ _ _ _ _ _ _ _ _ r h => by simp [laws_FnExactFixedBalls.j0] at h, fun _ _ _ r h => by simp [laws_FnExactFixedBalls.j1] at h⟩
 | k + 1 => by
  obtain ⟨ih0, ih1⟩ := laws_FnExactFixedBalls.mono_l k
  refine ⟨?_, ?_⟩
  ·
   intro y0 y1 y2 y3 y4 y5 y6 y7 y8 y9 y10 y11 y12
   unfold laws_FnExactFixedBalls.j0
   repeat' first
   | (with_reducible exact ih0 _ _ _ _ _ _ _ _ _ _ _ _ _)
   | (with_reducible exact ih1 _ _ _)
   | (with_reducible exact impl_FixedBalls.mono _ _ _ _ _ _ _ _ _ _)
   | (with_reducible exact laws_eqBallS.mono _ _ _)
   | (with_reducible exact laws_heldBallS.mono _ _ _)
   | (with_reducible exact laws_markBallS.mono _ _ _)
   | (with_reducible exact spec_FixedBalls.mono _ _ _ _ _ _ _ _ _ _)
   | (with_reducible exact LeO.refl _)
   | (with_reducible exact LeO.none _)
   | (with_reducible refine LeO.ite ?_ ?_)
   | (with_reducible refine LeO.bind ?_ (fun _ => ?_))
   | exact ih0 _ _ _ _ _ _ _ _ _ _ _ _ _
   | exact ih1 _ _ _
   | exact impl_FixedBalls.mono _ _ _ _ _ _ _ _ _ _
   | exact laws_eqBallS.mono _ _ _
   | exact laws_heldBallS.mono _ _ _
   | exact laws_markBallS.mono _ _ _
   | exact spec_FixedBalls.mono _ _ _ _ _ _ _ _ _ _
   | exact LeO.none _
   | refine LeO.ite ?_ ?_
   | refine LeO.bind ?_ (fun _ => ?_)
  ·
   intro y0 y1 y2
   unfold laws_FnExactFixedBalls.j1
   repeat' first
   | (with_reducible exact ih0 _ _ _ _ _ _ _ _ _ _ _ _ _)
   | (with_reducible exact ih1 _ _ _)
   | (with_reducible exact impl_FixedBalls.mono _ _ _ _ _ _ _ _ _ _)
   | (with_reducible exact laws_eqBallS.mono _ _ _)
   | (with_reducible exact laws_heldBallS.mono _ _ _)
   | (with_reducible exact laws_markBallS.mono _ _ _)
   | (with_reducible exact spec_FixedBalls.mono _ _ _ _ _ _ _ _ _ _)
   | (with_reducible exact LeO.refl _)
   | (with_reducible exact LeO.none _)
   | (with_reducible refine LeO.ite ?_ ?_)
   | (with_reducible refine LeO.bind ?_ (fun _ => ?_))
   | exact ih0 _ _ _ _ _ _ _ _ _ _ _ _ _
   | exact ih1 _ _ _
   | exact impl_FixedBalls.mono _ _ _ _ _ _ _ _ _ _
   | exact laws_eqBallS.mono _ _ _
   | exact laws_heldBallS.mono _ _ _
   | exact laws_markBallS.mono _ _ _
   | exact spec_FixedBalls.mono _ _ _ _ _ _ _ _ _ _
   | exact LeO.none _
   | refine LeO.ite ?_ ?_
   | refine LeO.bind ?_ (fun _ => ?_)
theorem laws_FnExactFixedBalls.mono : ∀ a0 a1 a2 a3 a4 a5 a6 a7 a8 k, LeO (laws_FnExactFixedBalls.f k a0 a1 a2 a3 a4 a5 a6 a7 a8) (laws_FnExactFixedBalls.f (k + 1) a0 a1 a2 a3 a4 a5 a6 a7 a8) := by
 intro a0 a1 a2 a3 a4 a5 a6 a7 a8 k
 obtain ⟨ih0, ih1⟩ := laws_FnExactFixedBalls.mono_l k
 unfold laws_FnExactFixedBalls.f
 repeat' first
   | (with_reducible exact ih0 _ _ _ _ _ _ _ _ _ _ _ _ _)
   | (with_reducible exact ih1 _ _ _)
   | (with_reducible exact impl_FixedBalls.mono _ _ _ _ _ _ _ _ _ _)
   | (with_reducible exact laws_eqBallS.mono _ _ _)
   | (with_reducible exact laws_heldBallS.mono _ _ _)
   | (with_reducible exact laws_markBallS.mono _ _ _)
   | (with_reducible exact spec_FixedBalls.mono _ _ _ _ _ _ _ _ _ _)
   | (with_reducible exact LeO.refl _)
   | (with_reducible exact LeO.none _)
   | (with_reducible refine LeO.ite ?_ ?_)
   | (with_reducible refine LeO.bind ?_ (fun _ => ?_))
   | exact ih0 _ _ _ _ _ _ _ _ _ _ _ _ _
   | exact ih1 _ _ _
   | exact impl_FixedBalls.mono _ _ _ _ _ _ _ _ _ _
   | exact laws_eqBallS.mono _ _ _
   | exact laws_heldBallS.mono _ _ _
   | exact laws_markBallS.mono _ _ _
   | exact spec_FixedBalls.mono _ _ _ _ _ _ _ _ _ _
   | exact LeO.none _
   | refine LeO.ite ?_ ?_
   | refine LeO.bind ?_ (fun _ => ?_)
def laws_FnExactFixedBalls.T1 : Bool × List (List Nat × List Nat) := (true, [([], []), ([], []), ([1], [1]), ([], []), ([3, 2], [3]), ([], []), ([0, 2, 4, 5, 4], [0, 2, 4, 5]), ([6], [6]), ([7], [7]), ([7], [7]), ([8, 6, 0, 1, 2, 3, 4, 5, 6, 7, 8], [8]), ([9, 10, 0, 1, 2, 3, 4, 5, 6, 7, 8, 9, 10], [9])])
def laws_FnExactFixedBalls.B1 : List Nat := [0, 0, 2, 0, 14, 0, 63, 127, 255, 255, 511, 2047]
theorem laws_FnExactFixedBalls.tab1 : rtab .any (opsOf Try.f5 1) = laws_FnExactFixedBalls.T1 := by kernel_rfl
theorem laws_FnExactFixedBalls.bits1 : waitsOk laws_FnExactFixedBalls.T1.2 laws_FnExactFixedBalls.B1 = true := by kernel_rfl
def laws_FnExactFixedBalls.T2 : Bool × List (List Nat × List Nat) := (true, [([], []), ([], []), ([1], [1]), ([], []), ([3, 2], [3]), ([], []), ([0, 2, 4, 5, 4], [0, 2, 4, 5]), ([6], [6]), ([7], [7]), ([7], [7]), ([8, 6, 0, 1, 2, 3, 4, 5, 6, 7, 8], [8]), ([9, 10, 0, 1, 2, 3, 4, 5, 6, 7, 8, 9, 10], [9])])
def laws_FnExactFixedBalls.B2 : List Nat := [0, 0, 2, 0, 14, 0, 63, 127, 255, 255, 511, 2047]
theorem laws_FnExactFixedBalls.tab2 : rtab .any (opsOf Try.f5 2) = laws_FnExactFixedBalls.T2 := by kernel_rfl
theorem laws_FnExactFixedBalls.bits2 : waitsOk laws_FnExactFixedBalls.T2.2 laws_FnExactFixedBalls.B2 = true := by kernel_rfl
def laws_FnExactFixedBalls.T13 : Bool × List (List Nat × List Nat) := (true, [([], []), ([], []), ([1], [1]), ([], []), ([3, 2], [3]), ([], []), ([0, 2, 4, 5, 4], [0, 2, 4, 5]), ([6], [6]), ([7], [7]), ([7], [7]), ([8, 6, 0, 1, 2, 3, 4, 5, 6, 7, 8], [8]), ([9, 10, 0, 1, 2, 3, 4, 5, 6, 7, 8, 9, 10], [9])])
def laws_FnExactFixedBalls.B13 : List Nat := [0, 0, 2, 0, 14, 0, 63, 127, 255, 255, 511, 2047]
theorem laws_FnExactFixedBalls.tab13 : rtab .any (opsOf Try.f5 13) = laws_FnExactFixedBalls.T13 := by kernel_rfl
theorem laws_FnExactFixedBalls.bits13 : waitsOk laws_FnExactFixedBalls.T13.2 laws_FnExactFixedBalls.B13 = true := by kernel_rfl
set_option maxHeartbeats 8000000 in
set_option maxRecDepth 100000 in
theorem laws_FnExactFixedBalls.calls (k : Nat) (a0 : Int) (a1_0 : Int) (a1_1 : Int) (a1_2 : Int) (a1_3 : Int) (a2_0 : Int) (a2_1 : Int) (a2_2 : Int) (a3 : Int) (r : Bool) (w : World) (h : laws_FnExactFixedBalls.f k a0 a1_0 a1_1 a1_2 a1_3 a2_0 a2_1 a2_2 a3 = some r) :
  Calls Try.prog 5 #[.int .i64 a0, .agg #[.int .i64 a1_0, .int .i64 a1_1, .int .i64 a1_2, .int .i64 a1_3], .agg #[.int .i64 a2_0, .int .i64 a2_1, .int .i64 a2_2], .int .i64 a3] w fun e w' => e = .returned (.bool r) ∧ Below w.heap.size w w' := by
 have hu23 := Try.underlying23
 have hu35 := Try.underlying35
 have HB := Aside0.mk (Below.refl w.heap.size w)
 have H := h
 unfold laws_FnExactFixedBalls.f at H
 clear h
 replace H := bS H
 obtain ⟨⟨t584, t585, t586, t587⟩, A5, H⟩ := H
 try dsimp only at H
 replace H := bS H
 obtain ⟨⟨t588, t589, t590⟩, A6, H⟩ := H
 try dsimp only at H
 replace H := bS H
 obtain ⟨⟨t591, t594⟩, A7, H⟩ := H
 try dsimp only at H
 replace H := bS H
 obtain ⟨⟨t595, t596, t597, t598⟩, A8, H⟩ := H
 try dsimp only at H
 replace H := bS H
 obtain ⟨⟨t599, t600, t601⟩, A9, H⟩ := H
 try dsimp only at H
 replace H := bS H
 obtain ⟨⟨t602, t605⟩, A10, H⟩ := H
 try dsimp only at H
 have HC11 := Aside0.mk H
 clear H
 go_enter Try.func5, Try.ntmps5
 try go_wp2_with (first | ((with_reducible refine gate_dst (N := 5) rfl ?_); refine box_event ?hg (N := 5) ?hd (cs := #[.int .i64 a1_0, .int .i64 a1_1, .int .i64 a1_2, .int .i64 a1_3]) (t := 23) ?hr ?_; (case hd => rfl); (case hg => rfl); (case hr => first | (go_simp; done) | (go_simp; rfl)); intro gb582 hg w12 hbox hb; have n0_ := lB hb; have n1_ := Aside0.mk (hbox); have n2_ := sA hg; have n3_ := sA hg; clear HB; have HB := n0_; have BK582 := n1_; have GW582 := n2_; have GE582 := n3_; clear n0_ n1_ n2_ n3_; clear hb hbox hg) | ((with_reducible refine gate_dst (N := 6) rfl ?_); refine box_event ?hg (N := 6) ?hd (cs := #[.int .i64 a2_0, .int .i64 a2_1, .int .i64 a2_2]) (t := 35) ?hr ?_; (case hd => rfl); (case hg => rfl); (case hr => first | (go_simp; done) | (go_simp; rfl)); intro gb583 hg w13 hbox hb; have n0_ := kB BK582 hb; have n1_ := lB hb; have n2_ := Aside0.mk (hbox); have n3_ := sA hg; have n4_ := sA hg; have n5_ := nA hg BK582; have n6_ := nB hg BK582; clear BK582; clear HB; have BK582 := n0_; have HB := n1_; have BK583 := n2_; have GW583 := n3_; have GE583 := n4_; have NB582_583 := n5_; have NB583_582 := n6_; clear n0_ n1_ n2_ n3_ n4_ n5_ n6_; clear hb hbox hg))
 have n0_ := Aside0.mk (blk_drew BK582.out)
 have n1_ := Aside0.mk (blk_drew BK583.out)
 have n2_ := Aside0.mk (below_drew1 HB.out)
 clear BK582
 clear BK583
 clear HB
 have BK582 := n0_
 have BK583 := n1_
 have HB := n2_
 clear n0_ n1_ n2_
 refine start_ (n := 12) (S := fun w' => w'.cell? ⟨gb582, 0, none⟩ = some (.int .i64 a1_0) ∧ w'.cell? ⟨gb582, 1, none⟩ = some (.int .i64 a1_1) ∧ w'.cell? ⟨gb582, 2, none⟩ = some (.int .i64 a1_2) ∧ w'.cell? ⟨gb582, 3, none⟩ = some (.int .i64 a1_3) ∧ w'.cell? ⟨gb583, 0, none⟩ = some (.int .i64 a2_0) ∧ w'.cell? ⟨gb583, 1, none⟩ = some (.int .i64 a2_1) ∧ w'.cell? ⟨gb583, 2, none⟩ = some (.int .i64 a2_2)) (ds := []) #[Z, Z, Z, Z, Z, Z, Z, Z, Z, Z, Z, Z] (by kernel_rfl) rfl rfl ⟨cA BK582 0, cA BK582 1, cA BK582 2, cA BK582 3, cA BK583 0, cA BK583 1, cA BK583 2⟩ (fun hHeld => ?_); refine with_tabW laws_FnExactFixedBalls.tab1 laws_FnExactFixedBalls.bits1 (fun HT_ HW_ => ?_)
 generalize w13.drew = w14 at BK582 BK583 HB hHeld ⊢
 refine pure_ (i := 0) (N := some 18) (v := ?_) (a' := ?_) #[Y, Z, Z, Z, Z, Z, Z, Z, Z, Z, Z, Z] rfl rfl (any_of HT_.out (by kernel_rfl)) (fun _ _ _ h => h) (Or.inl ⟨by rfl, ?_⟩) ?_ ?_
 rotate_left
 ·
  intro w'
  go_simp
  with_reducible rfl
 rotate_left
 ·
  simp only [pA]
  rfl
 refine pure_ (i := 5) (N := some 23) (v := ?_) (a' := ?_) #[Y, Z, Z, Z, Z, Y, Z, Z, Z, Z, Z, Z] rfl rfl (any_of HT_.out (by kernel_rfl)) (fun _ _ _ h => h) (Or.inl ⟨by rfl, ?_⟩) ?_ ?_
 rotate_left
 ·
  intro w'
  go_simp
  with_reducible rfl
 rotate_left
 ·
  simp only [pA]
  rfl
 refine take_ (i := 1) (N := some 19) (v := ?_) (a' := ?_) #[Y, Y, Z, Z, Z, Y, Z, Z, Z, Z, Z, Z] rfl rfl (take_ofW HT_.out HW_.out (by kernel_rfl)) (fun _ _ _ h => h) (Or.inl ⟨by rfl, ?_⟩) hHeld ?_ ?_
 rotate_left
 ·
  rintro w' ⟨s0, s1, s2, s3, s4, s5, s6⟩
  go_simp
  with_reducible rfl
 rotate_left
 ·
  simp only [pA]
  rfl
 refine take_ (i := 3) (N := some 21) (v := ?_) (a' := ?_) #[Y, Y, Z, Y, Z, Y, Z, Z, Z, Z, Z, Z] rfl rfl (take_ofW HT_.out HW_.out (by kernel_rfl)) (fun _ _ _ h => h) (Or.inl ⟨by rfl, ?_⟩) hHeld ?_ ?_
 rotate_left
 ·
  rintro w' ⟨s0, s1, s2, s3, s4, s5, s6⟩
  go_simp
  with_reducible rfl
 rotate_left
 ·
  simp only [pA]
  rfl
 refine one_ (i := 2) (N := some 20) #[Y, Y, Y, Y, Z, Y, Z, Z, Z, Z, Z, Z] rfl rfl (one_of HT_.out (by kernel_rfl)) (by decide) (fun K hK => ?_)
 refine goes_ Try.func12 (by kernel_rfl) rfl #[.agg #[.int .i64 a1_0, .int .i64 a1_1, .int .i64 a1_2, .int .i64 a1_3]] (by rfl) rfl rfl hA ?_
 with_reducible refine (laws_toMatrix.calls a1_0 a1_1 a1_2 a1_3 t584 t585 t586 t587 _ A5.out).mono ?_
 rintro e w15 ⟨rfl, hb⟩
 refine ⟨_, rfl, ?_⟩
 replace BK582 := kB BK582 hb
 replace BK583 := kB BK583 hb
 replace HB := lB hb
 (try clear hb)
 (try clear hb2)
 (try clear hk)
 (try clear hi)
 refine hK.out _ _ ⟨cA BK582 0, cA BK582 1, cA BK582 2, cA BK582 3, cA BK583 0, cA BK583 1, cA BK583 2⟩ (fun hHeld => ?_)
 clear hK K
 refine norm_ (a' := ?_) ?_ ?_
 rotate_left
 ·
  show Act.put _ (some 20) _ = _
  simp only [pA]
  rfl
 refine one_ (i := 4) (N := some 22) #[Y, Y, Y, Y, Y, Y, Z, Z, Z, Z, Z, Z] rfl rfl (one_of HT_.out (by kernel_rfl)) (by decide) (fun K hK => ?_)
 refine goes_ Try.func20 (by kernel_rfl) rfl #[.agg #[.int .i64 a2_0, .int .i64 a2_1, .int .i64 a2_2]] (by rfl) rfl rfl hA ?_
 with_reducible refine (laws_toBall.calls a2_0 a2_1 a2_2 t588 t589 t590 _ A6.out).mono ?_
 rintro e w16 ⟨rfl, hb⟩
 refine ⟨_, rfl, ?_⟩
 replace BK582 := kB BK582 hb
 replace BK583 := kB BK583 hb
 replace HB := lB hb
 (try clear hb)
 (try clear hb2)
 (try clear hk)
 (try clear hi)
 refine hK.out _ _ ⟨cA BK582 0, cA BK582 1, cA BK582 2, cA BK582 3, cA BK583 0, cA BK583 1, cA BK583 2⟩ (fun hHeld => ?_)
 clear hK K
 refine norm_ (a' := ?_) ?_ ?_
 rotate_left
 ·
  show Act.put _ (some 22) _ = _
  simp only [pA]
  rfl
 refine one_ (i := 6) (N := some 24) #[Y, Y, Y, Y, Y, Y, Y, Z, Z, Z, Z, Z] rfl rfl (one_of HT_.out (by kernel_rfl)) (by decide) (fun K hK => ?_)
 refine goes_ Try.func19 (by kernel_rfl) rfl #[.int .i64 a0, .agg #[.int .i64 t584, .int .i64 t585, .int .i64 t586, .int .i64 t587], .agg #[.int .i64 t588, .int .i64 t589, .int .i64 t590], .int .i64 a3] (by rfl) rfl rfl hA ?_
 with_reducible refine (spec_FixedBalls.calls k a0 t584 t585 t586 t587 t588 t589 t590 a3 t591 t594 _ A7.out).mono ?_
 rintro e w17 ⟨v592, rfl, ho0, hb⟩
 refine ⟨_, rfl, ?_⟩
 have HO593 := Aside0.mk (Kd.R_lower ho0 (below_size blA))
 replace BK582 := kB BK582 hb
 replace BK583 := kB BK583 hb
 replace HB := lB hb
 (try clear hb)
 (try clear hb2)
 (try clear hk)
 (try clear hi)
 (try clear ho0)
 refine hK.out _ _ ⟨cA BK582 0, cA BK582 1, cA BK582 2, cA BK582 3, cA BK583 0, cA BK583 1, cA BK583 2⟩ (fun hHeld => ?_)
 clear hK K
 refine norm_ (a' := ?_) ?_ ?_
 rotate_left
 ·
  show Act.put _ (some 24) _ = _
  simp only [pA]
  rfl
 refine pure_ (i := 7) (N := some 17) (v := ?_) (a' := ?_) #[Y, Y, Y, Y, Y, Y, Y, Y, Z, Z, Z, Z] rfl rfl (any_of HT_.out (by kernel_rfl)) (fun _ _ _ h => h) (Or.inl ⟨by rfl, ?_⟩) ?_ ?_
 rotate_left
 ·
  intro w'
  go_simp
  with_reducible rfl
 rotate_left
 ·
  simp only [pA]
  rfl
 refine pure_ (i := 8) (N := some 25) (v := ?_) (a' := ?_) #[Y, Y, Y, Y, Y, Y, Y, Y, Y, Z, Z, Z] rfl rfl (any_of HT_.out (by kernel_rfl)) (fun _ _ _ h => h) (Or.inl ⟨by rfl, ?_⟩) ?_ ?_
 rotate_left
 ·
  intro w'
  go_simp
  with_reducible rfl
 rotate_left
 ·
  simp only [pA]
  rfl
 refine pure_ (i := 9) (N := some 26) (v := ?_) (a' := ?_) #[Y, Y, Y, Y, Y, Y, Y, Y, Y, Y, Z, Z] rfl rfl (any_of HT_.out (by kernel_rfl)) (fun _ _ _ h => h) (Or.inl ⟨by rfl, ?_⟩) ?_ ?_
 rotate_left
 ·
  intro w'
  go_simp
  with_reducible rfl
 rotate_left
 ·
  simp only [pA]
  rfl
 refine pure_ (i := 10) (N := some 9) (v := ?_) (a' := ?_) #[Y, Y, Y, Y, Y, Y, Y, Y, Y, Y, Y, Z] rfl rfl (any_of HT_.out (by kernel_rfl)) (fun _ _ _ h => h) (Or.inl ⟨by rfl, ?_⟩) ?_ ?_
 rotate_left
 ·
  intro w'
  go_simp
  with_reducible rfl
 rotate_left
 ·
  simp only [pA]
  rfl
 refine pure_ (i := 11) (N := some 10) (v := ?_) (a' := ?_) #[Y, Y, Y, Y, Y, Y, Y, Y, Y, Y, Y, Y] rfl rfl (any_of HT_.out (by kernel_rfl)) (fun _ _ _ h => h) (Or.inl ⟨by rfl, ?_⟩) ?_ ?_
 rotate_left
 ·
  intro w'
  go_simp
  with_reducible rfl
 rotate_left
 ·
  simp only [pA]
  rfl
 refine done_ (done_of HT_.out (by kernel_rfl)) ?_
 try go_wp2
 have n0_ := Aside0.mk (Kd.R_drew HO593.out)
 have n1_ := Aside0.mk (blk_drew BK582.out)
 have n2_ := Aside0.mk (blk_drew BK583.out)
 have n3_ := Aside0.mk (below_drew1 HB.out)
 clear HO593
 clear BK582
 clear BK583
 clear HB
 have HO593 := n0_
 have BK582 := n1_
 have BK583 := n2_
 have HB := n3_
 clear n0_ n1_ n2_ n3_
 refine start_ (n := 12) (S := fun w' => w'.cell? ⟨gb582, 0, none⟩ = some (.int .i64 a1_0) ∧ w'.cell? ⟨gb582, 1, none⟩ = some (.int .i64 a1_1) ∧ w'.cell? ⟨gb582, 2, none⟩ = some (.int .i64 a1_2) ∧ w'.cell? ⟨gb582, 3, none⟩ = some (.int .i64 a1_3) ∧ w'.cell? ⟨gb583, 0, none⟩ = some (.int .i64 a2_0) ∧ w'.cell? ⟨gb583, 1, none⟩ = some (.int .i64 a2_1) ∧ w'.cell? ⟨gb583, 2, none⟩ = some (.int .i64 a2_2)) (ds := []) #[Z, Z, Z, Z, Z, Z, Z, Z, Z, Z, Z, Z] (by kernel_rfl) rfl rfl ⟨cA BK582 0, cA BK582 1, cA BK582 2, cA BK582 3, cA BK583 0, cA BK583 1, cA BK583 2⟩ (fun hHeld => ?_); refine with_tabW laws_FnExactFixedBalls.tab2 laws_FnExactFixedBalls.bits2 (fun HT_ HW_ => ?_)
 generalize w17.drew = w18 at HO593 BK582 BK583 HB hHeld ⊢
 refine pure_ (i := 0) (N := some 28) (v := ?_) (a' := ?_) #[Y, Z, Z, Z, Z, Z, Z, Z, Z, Z, Z, Z] rfl rfl (any_of HT_.out (by kernel_rfl)) (fun _ _ _ h => h) (Or.inl ⟨by rfl, ?_⟩) ?_ ?_
 rotate_left
 ·
  intro w'
  go_simp
  with_reducible rfl
 rotate_left
 ·
  simp only [pA]
  rfl
 refine pure_ (i := 5) (N := some 33) (v := ?_) (a' := ?_) #[Y, Z, Z, Z, Z, Y, Z, Z, Z, Z, Z, Z] rfl rfl (any_of HT_.out (by kernel_rfl)) (fun _ _ _ h => h) (Or.inl ⟨by rfl, ?_⟩) ?_ ?_
 rotate_left
 ·
  intro w'
  go_simp
  with_reducible rfl
 rotate_left
 ·
  simp only [pA]
  rfl
 refine take_ (i := 1) (N := some 29) (v := ?_) (a' := ?_) #[Y, Y, Z, Z, Z, Y, Z, Z, Z, Z, Z, Z] rfl rfl (take_ofW HT_.out HW_.out (by kernel_rfl)) (fun _ _ _ h => h) (Or.inl ⟨by rfl, ?_⟩) hHeld ?_ ?_
 rotate_left
 ·
  rintro w' ⟨s0, s1, s2, s3, s4, s5, s6⟩
  go_simp
  with_reducible rfl
 rotate_left
 ·
  simp only [pA]
  rfl
 refine take_ (i := 3) (N := some 31) (v := ?_) (a' := ?_) #[Y, Y, Z, Y, Z, Y, Z, Z, Z, Z, Z, Z] rfl rfl (take_ofW HT_.out HW_.out (by kernel_rfl)) (fun _ _ _ h => h) (Or.inl ⟨by rfl, ?_⟩) hHeld ?_ ?_
 rotate_left
 ·
  rintro w' ⟨s0, s1, s2, s3, s4, s5, s6⟩
  go_simp
  with_reducible rfl
 rotate_left
 ·
  simp only [pA]
  rfl
 refine one_ (i := 2) (N := some 30) #[Y, Y, Y, Y, Z, Y, Z, Z, Z, Z, Z, Z] rfl rfl (one_of HT_.out (by kernel_rfl)) (by decide) (fun K hK => ?_)
 refine goes_ Try.func12 (by kernel_rfl) rfl #[.agg #[.int .i64 a1_0, .int .i64 a1_1, .int .i64 a1_2, .int .i64 a1_3]] (by rfl) rfl rfl hA ?_
 with_reducible refine (laws_toMatrix.calls a1_0 a1_1 a1_2 a1_3 t595 t596 t597 t598 _ A8.out).mono ?_
 rintro e w19 ⟨rfl, hb⟩
 refine ⟨_, rfl, ?_⟩
 replace HO593 := Aside0.mk (Kd.R_below (rA HO593) hb)
 replace BK582 := kB BK582 hb
 replace BK583 := kB BK583 hb
 replace HB := lB hb
 (try clear hb)
 (try clear hb2)
 (try clear hk)
 (try clear hi)
 refine hK.out _ _ ⟨cA BK582 0, cA BK582 1, cA BK582 2, cA BK582 3, cA BK583 0, cA BK583 1, cA BK583 2⟩ (fun hHeld => ?_)
 clear hK K
 refine norm_ (a' := ?_) ?_ ?_
 rotate_left
 ·
  show Act.put _ (some 30) _ = _
  simp only [pA]
  rfl
 refine one_ (i := 4) (N := some 32) #[Y, Y, Y, Y, Y, Y, Z, Z, Z, Z, Z, Z] rfl rfl (one_of HT_.out (by kernel_rfl)) (by decide) (fun K hK => ?_)
 refine goes_ Try.func20 (by kernel_rfl) rfl #[.agg #[.int .i64 a2_0, .int .i64 a2_1, .int .i64 a2_2]] (by rfl) rfl rfl hA ?_
 with_reducible refine (laws_toBall.calls a2_0 a2_1 a2_2 t599 t600 t601 _ A9.out).mono ?_
 rintro e w20 ⟨rfl, hb⟩
 refine ⟨_, rfl, ?_⟩
 replace HO593 := Aside0.mk (Kd.R_below (rA HO593) hb)
 replace BK582 := kB BK582 hb
 replace BK583 := kB BK583 hb
 replace HB := lB hb
 (try clear hb)
 (try clear hb2)
 (try clear hk)
 (try clear hi)
 refine hK.out _ _ ⟨cA BK582 0, cA BK582 1, cA BK582 2, cA BK582 3, cA BK583 0, cA BK583 1, cA BK583 2⟩ (fun hHeld => ?_)
 clear hK K
 refine norm_ (a' := ?_) ?_ ?_
 rotate_left
 ·
  show Act.put _ (some 32) _ = _
  simp only [pA]
  rfl
 refine one_ (i := 6) (N := some 34) #[Y, Y, Y, Y, Y, Y, Y, Z, Z, Z, Z, Z] rfl rfl (one_of HT_.out (by kernel_rfl)) (by decide) (fun K hK => ?_)
 refine goes_ Try.func21 (by kernel_rfl) rfl #[.int .i64 a0, .agg #[.int .i64 t595, .int .i64 t596, .int .i64 t597, .int .i64 t598], .agg #[.int .i64 t599, .int .i64 t600, .int .i64 t601], .int .i64 a3] (by rfl) rfl rfl hA ?_
 with_reducible refine (impl_FixedBalls.calls k a0 t595 t596 t597 t598 t599 t600 t601 a3 t602 t605 _ A10.out).mono ?_
 rintro e w21 ⟨v603, rfl, ho0, hb⟩
 refine ⟨_, rfl, ?_⟩
 have HO604 := Aside0.mk (Kd.R_lower (Kd.R_new' ho0 (Kd.R_lt (rA HO593))) (below_size blA))
 replace HO593 := Aside0.mk (Kd.R_elder' (rA HO593) (Kd.R_base ho0) hb)
 replace BK582 := kB BK582 hb
 replace BK583 := kB BK583 hb
 replace HB := lB hb
 (try clear hb)
 (try clear hb2)
 (try clear hk)
 (try clear hi)
 (try clear ho0)
 refine hK.out _ _ ⟨cA BK582 0, cA BK582 1, cA BK582 2, cA BK582 3, cA BK583 0, cA BK583 1, cA BK583 2⟩ (fun hHeld => ?_)
 clear hK K
 refine norm_ (a' := ?_) ?_ ?_
 rotate_left
 ·
  show Act.put _ (some 34) _ = _
  simp only [pA]
  rfl
 refine pure_ (i := 7) (N := some 27) (v := ?_) (a' := ?_) #[Y, Y, Y, Y, Y, Y, Y, Y, Z, Z, Z, Z] rfl rfl (any_of HT_.out (by kernel_rfl)) (fun _ _ _ h => h) (Or.inl ⟨by rfl, ?_⟩) ?_ ?_
 rotate_left
 ·
  intro w'
  go_simp
  with_reducible rfl
 rotate_left
 ·
  simp only [pA]
  rfl
 refine pure_ (i := 8) (N := some 35) (v := ?_) (a' := ?_) #[Y, Y, Y, Y, Y, Y, Y, Y, Y, Z, Z, Z] rfl rfl (any_of HT_.out (by kernel_rfl)) (fun _ _ _ h => h) (Or.inl ⟨by rfl, ?_⟩) ?_ ?_
 rotate_left
 ·
  intro w'
  go_simp
  with_reducible rfl
 rotate_left
 ·
  simp only [pA]
  rfl
 refine pure_ (i := 9) (N := some 36) (v := ?_) (a' := ?_) #[Y, Y, Y, Y, Y, Y, Y, Y, Y, Y, Z, Z] rfl rfl (any_of HT_.out (by kernel_rfl)) (fun _ _ _ h => h) (Or.inl ⟨by rfl, ?_⟩) ?_ ?_
 rotate_left
 ·
  intro w'
  go_simp
  with_reducible rfl
 rotate_left
 ·
  simp only [pA]
  rfl
 refine pure_ (i := 10) (N := some 11) (v := ?_) (a' := ?_) #[Y, Y, Y, Y, Y, Y, Y, Y, Y, Y, Y, Z] rfl rfl (any_of HT_.out (by kernel_rfl)) (fun _ _ _ h => h) (Or.inl ⟨by rfl, ?_⟩) ?_ ?_
 rotate_left
 ·
  intro w'
  go_simp
  with_reducible rfl
 rotate_left
 ·
  simp only [pA]
  rfl
 refine pure_ (i := 11) (N := some 12) (v := ?_) (a' := ?_) #[Y, Y, Y, Y, Y, Y, Y, Y, Y, Y, Y, Y] rfl rfl (any_of HT_.out (by kernel_rfl)) (fun _ _ _ h => h) (Or.inl ⟨by rfl, ?_⟩) ?_ ?_
 rotate_left
 ·
  intro w'
  go_simp
  with_reducible rfl
 rotate_left
 ·
  simp only [pA]
  rfl
 refine done_ (done_of HT_.out (by kernel_rfl)) ?_
 go_upto_region 3 with (fail)
 go_cut [45] (fun v45 wc => ∃ (kq : Nat) (x45_10 : Bool), v45 = .bool x45_10 ∧ Aside0 (laws_FnExactFixedBalls.j0 kq a0 a3 t591 t594 t602 x45_10 a1_0 a1_1 a1_2 a1_3 a2_0 a2_1 a2_2 = some r) ∧ Aside0 (kq ≤ k) ∧ Aside0 (Kd.R k39 39 wc w.heap.size (fun k_ => some k_ ≠ (v603 : Value).ownBlock) v592 t591) ∧ Aside0 (Kd.R k39 39 wc w.heap.size (fun k_ => some k_ ≠ (v592 : Value).ownBlock) v603 t602) ∧ Aside0 (wc.heap[gb582]? = some (.cells #[.int .i64 a1_0, .int .i64 a1_1, .int .i64 a1_2, .int .i64 a1_3] 23 (0, 0))) ∧ Aside0 (wc.heap[gb583]? = some (.cells #[.int .i64 a2_0, .int .i64 a2_1, .int .i64 a2_2] 35 (0, 0))) ∧ Aside0 (Below w.heap.size w wc))
 case first =>
  have H := HC11.out
  clear HC11
  replace H := bS H
  obtain ⟨t606, A22, H⟩ := H
  try dsimp only at H
  by_cases c23 : t606 = true
  ·
   subst c23
   rw [if_pos rfl] at H
   try dsimp only at H
   have H' := Aside0.mk H
   clear H
   obtain ⟨Ao24, co24, eo24⟩ := Kd.R_slice HO604.out
   subst eo24
   obtain ⟨Ao25, co25, eo25⟩ := Kd.R_slice HO593.out
   subst eo25
   go_wp2_with (first | ((with_reducible refine gate_callee (f := 22) rfl ?_); refine goesL_ (some 39) rfl rfl Try.func22 (by kernel_rfl) rfl #[.slice Ao24 t602.length co24, .slice Ao25 t591.length co25] rfl hA ?_; (with_reducible refine (laws_eqBallS.calls k _ _ t602 _ _ t591 true _ ?side1 ?side2 ?side3 ?side4 A22.out).mono ?_); (case side1 => repeat (first | exact (Kd.R_reads' HO604.out).2.2 | (with_reducible refine Kd.C_alloc ?_ _) | (with_reducible refine Kd.C_drewN ?_ _) | (with_reducible refine Kd.C_drew ?_))); (case side2 => exact (Kd.R_reads' HO604.out).2.1); (case side3 => repeat (first | exact (Kd.R_reads' HO593.out).2.2 | (with_reducible refine Kd.C_alloc ?_ _) | (with_reducible refine Kd.C_drewN ?_ _) | (with_reducible refine Kd.C_drew ?_))); (case side4 => exact (Kd.R_reads' HO593.out).2.1); rintro e w26 ⟨rfl, hb⟩; refine ⟨_, rfl, ?_⟩; have n0_ := Aside0.mk (Kd.R_below (rA HO593) hb); have n1_ := Aside0.mk (Kd.R_below (rA HO604) hb); have n2_ := kB BK582 hb; have n3_ := kB BK583 hb; have n4_ := lB hb; clear HO593; clear HO604; clear BK582; clear BK583; clear HB; have HO593 := n0_; have HO604 := n1_; have BK582 := n2_; have BK583 := n3_; have HB := n4_; clear n0_ n1_ n2_ n3_ n4_; (try clear hb); (try clear hb2); (try clear hk); (try clear hi)))
   go_meet
   case rel => exact ⟨_, ((t605 != t594)), hB, H', ⟨by first | omega | exact Nat.le_refl _⟩, ⟨by (with_reducible repeat (first | apply Kd.R_alloc | apply Kd.R_drewN | apply Kd.R_drew)); exact Kd.R_mono HO593.out (fun _ hk => hk.2)⟩, ⟨by (with_reducible repeat (first | apply Kd.R_alloc | apply Kd.R_drewN | apply Kd.R_drew)); exact Kd.R_mono HO604.out (fun _ hk => hk.2)⟩, ⟨bkA BK582⟩, ⟨bkA BK583⟩, ⟨blA⟩⟩
  ·
   replace c23 := Bool.eq_false_iff.mpr c23
   subst c23
   rw [if_neg (show ¬ (false = true) by decide)] at H
   try dsimp only at H
   have H' := Aside0.mk H
   clear H
   obtain ⟨Ao27, co27, eo27⟩ := Kd.R_slice HO604.out
   subst eo27
   obtain ⟨Ao28, co28, eo28⟩ := Kd.R_slice HO593.out
   subst eo28
   go_wp2_with (first | ((with_reducible refine gate_callee (f := 22) rfl ?_); refine goesL_ (some 39) rfl rfl Try.func22 (by kernel_rfl) rfl #[.slice Ao27 t602.length co27, .slice Ao28 t591.length co28] rfl hA ?_; (with_reducible refine (laws_eqBallS.calls k _ _ t602 _ _ t591 false _ ?side1 ?side2 ?side3 ?side4 A22.out).mono ?_); (case side1 => repeat (first | exact (Kd.R_reads' HO604.out).2.2 | (with_reducible refine Kd.C_alloc ?_ _) | (with_reducible refine Kd.C_drewN ?_ _) | (with_reducible refine Kd.C_drew ?_))); (case side2 => exact (Kd.R_reads' HO604.out).2.1); (case side3 => repeat (first | exact (Kd.R_reads' HO593.out).2.2 | (with_reducible refine Kd.C_alloc ?_ _) | (with_reducible refine Kd.C_drewN ?_ _) | (with_reducible refine Kd.C_drew ?_))); (case side4 => exact (Kd.R_reads' HO593.out).2.1); rintro e w29 ⟨rfl, hb⟩; refine ⟨_, rfl, ?_⟩; have n0_ := Aside0.mk (Kd.R_below (rA HO593) hb); have n1_ := Aside0.mk (Kd.R_below (rA HO604) hb); have n2_ := kB BK582 hb; have n3_ := kB BK583 hb; have n4_ := lB hb; clear HO593; clear HO604; clear BK582; clear BK583; clear HB; have HO593 := n0_; have HO604 := n1_; have BK582 := n2_; have BK583 := n3_; have HB := n4_; clear n0_ n1_ n2_ n3_ n4_; (try clear hb); (try clear hb2); (try clear hk); (try clear hi)))
   go_meet
   case rel => exact ⟨_, (true), hB, H', ⟨by first | omega | exact Nat.le_refl _⟩, ⟨by (with_reducible repeat (first | apply Kd.R_alloc | apply Kd.R_drewN | apply Kd.R_drew)); exact Kd.R_mono HO593.out (fun _ hk => hk.2)⟩, ⟨by (with_reducible repeat (first | apply Kd.R_alloc | apply Kd.R_drewN | apply Kd.R_drew)); exact Kd.R_mono HO604.out (fun _ hk => hk.2)⟩, ⟨bkA BK582⟩, ⟨bkA BK583⟩, ⟨blA⟩⟩
 case rest =>
  clear HC11
  try clear c1
  try clear c2
  try clear p2
  try clear c5
  try clear c12
  try clear c19
  try clear c20
  try clear c21
  try clear c22
  try clear c23
  obtain ⟨kq, x45_10, rfl, HA, HJ10, HO_9, HO_11, BK582, BK583, HB⟩ := hcut
  cases kq with
  | zero => exact absurd HA.out (by simp [laws_FnExactFixedBalls.j0])
  | succ kj10 =>
   have H := HA.out
   clear HA
   simp only [laws_FnExactFixedBalls.j0] at H
   by_cases c30 : x45_10 = true
   ·
    subst c30
    rw [if_pos rfl] at H
    try dsimp only at H
    exact absurd H (by simp)
   ·
    replace c30 := Bool.eq_false_iff.mpr c30
    subst c30
    rw [if_neg (show ¬ (false = true) by decide)] at H
    try dsimp only at H
    replace H := bS H
    obtain ⟨⟨t607, t608⟩, A31, H⟩ := H
    try dsimp only at H
    replace H := bS H
    obtain ⟨t609, A32, H⟩ := H
    try dsimp only at H
    by_cases c33 : t609 < 0
    ·
     rw [if_pos c33] at H
     exact absurd H (by simp)
    ·
     rw [if_neg c33] at H
     have c33b0 := decide_eq_false c33
     clear c33
     by_cases c34 : t609 = t607
     ·
      rw [if_pos c34] at H
      have c34b0 : (t609 == t607) = true := beq_iff_eq.mpr c34
      have c34b1 : (t609 != t607) = false := bne_eq_false_iff_eq.mpr c34
      clear c34
      replace H := bS H
      obtain ⟨⟨t610, t611, t612, t613⟩, A35, H⟩ := H
      try dsimp only at H
      replace H := bS H
      obtain ⟨⟨t614, t615, t616⟩, A36, H⟩ := H
      try dsimp only at H
      replace H := bS H
      obtain ⟨⟨t617, t620⟩, A37, H⟩ := H
      try dsimp only at H
      have HC38 := Aside0.mk H
      clear H
      obtain ⟨Ao39, co39, eo39⟩ := Kd.R_slice HO_11.out
      subst eo39
      try go_wp2_with (first | ((with_reducible refine gate_callee (f := 23) rfl ?_); refine goesL_ (some 48) rfl rfl Try.func23 (by kernel_rfl) rfl #[.slice Ao39 t602.length co39, .int .i64 1] rfl hA ?_; (with_reducible refine (laws_markBallS.calls kj10 (fun k_ => some k_ = (.slice Ao39 t602.length co39 : Value).ownBlock) (.slice Ao39 t602.length co39) t602 1 t607 t608 w _ ?side1 ?side2 A31.out).mono ?_); (case side1 => repeat (first | (with_reducible first | exact HB.out | apply below_alloc | apply pw_below_drewN | apply below_drew1 | refine below_set ?_ GE582.out | refine below_set ?_ GE583.out) | exact HB.out)); (case side2 => exact Kd.R_tight rfl HO_11.out); rintro e w40 ⟨rfl, hy0, hb, hkp⟩; refine ⟨_, rfl, ?_⟩; have n0_ := Aside0.mk (Kd.R_mono (ok' := fun k_ => some k_ ≠ (.slice Ao39 t602.length co39 : Value).ownBlock) (Kd.R_keptB (HO_9.out) hkp (fun k_ hk_ hs_ => (hk_) hs_)) (fun k_ hk_ => hk_.1)); have n1_ := Aside0.mk (Kd.R_reok rfl hy0 (fun k_ e_ => HO_11.out.1 k_ e_)); have n2_ := Aside0.mk (blk_kept (bkA BK582) hkp (fun hs_ => (fun e_ => (Kd.R_ne HO_11.out BK582.out (by decide)) e_) hs_)); have n3_ := Aside0.mk (blk_kept (bkA BK583) hkp (fun hs_ => (fun e_ => (Kd.R_ne HO_11.out BK583.out (by decide)) e_) hs_)); have n4_ := Aside0.mk (hb); clear HO_9; clear HO_11; clear BK582; clear BK583; clear HB; have HO_9 := n0_; have HO_11 := n1_; have BK582 := n2_; have BK583 := n3_; have HB := n4_; clear n0_ n1_ n2_ n3_ n4_; (try clear hb); (try clear hkp); (try clear hy0)) | ((with_reducible refine gate_callee (f := 24) rfl ?_); refine goesL_ (some 51) rfl rfl Try.func24 (by kernel_rfl) rfl #[.slice Ao39 t608.length co39, .int .i64 1] rfl (by (try simp only [List.map_toArray, List.map_cons, List.map_nil]); first | done | (rw [show t608.length = t602.length from (Kd.R_reads' HO_11.out).1.symm] <;> rfl) | rfl | (simp only [List.length_drop, List.length_take]; rfl)) ?_; (with_reducible refine (laws_heldBallS.calls kj10 _ _ t608 1 t609 _ ?side1 ?side2 A32.out).mono ?_); (case side1 => repeat (first | exact (Kd.R_reads' HO_11.out).2.2 | (with_reducible refine Kd.C_alloc ?_ _) | (with_reducible refine Kd.C_drewN ?_ _) | (with_reducible refine Kd.C_drew ?_))); (case side2 => rw [show t608.length = t602.length from (Kd.R_reads' HO_11.out).1.symm]; exact (Kd.R_reads' HO_11.out).2.1); rintro e w' ⟨rfl, ⟨nd, rfl⟩⟩; refine ⟨_, rfl, ?_⟩))
      (try (rw [drewN_self w40]; generalize hq_ : World.drewN w40 _ = w40; have n0_ : Aside0 (Kd.R k39 39 w40 w.heap.size (fun k_ => some k_ ≠ (v592 : Value).ownBlock) (.slice Ao39 t602.length co39) t608) := ⟨by rw [← hq_]; exact (rA HO_11)⟩; have n1_ : Aside0 (Kd.R k39 39 w40 w.heap.size (fun k_ => some k_ ≠ (.slice Ao39 t602.length co39 : Value).ownBlock) v592 t591) := ⟨by rw [← hq_]; exact (rA HO_9)⟩; have n2_ : Aside0 (w40.heap[gb582]? = some (.cells #[.int .i64 a1_0, .int .i64 a1_1, .int .i64 a1_2, .int .i64 a1_3] 23 (0, 0))) := ⟨by rw [← hq_]; exact (bkA BK582)⟩; have n3_ : Aside0 (w40.heap[gb583]? = some (.cells #[.int .i64 a2_0, .int .i64 a2_1, .int .i64 a2_2] 35 (0, 0))) := ⟨by rw [← hq_]; exact (bkA BK583)⟩; have n4_ : Aside0 (Below w.heap.size w w40) := ⟨by rw [← hq_]; exact blA⟩; clear HO_11 HO_9 BK582 BK583 HB hq_; have HO_11 := n0_; have HO_9 := n1_; have BK582 := n2_; have BK583 := n3_; have HB := n4_; clear n0_ n1_ n2_ n3_ n4_))
      have n0_ := Aside0.mk (Kd.R_drew HO_9.out)
      have n1_ := Aside0.mk (Kd.R_drew HO_11.out)
      have n2_ := Aside0.mk (blk_drew BK582.out)
      have n3_ := Aside0.mk (blk_drew BK583.out)
      have n4_ := Aside0.mk (below_drew1 HB.out)
      clear HO_9
      clear HO_11
      clear BK582
      clear BK583
      clear HB
      have HO_9 := n0_
      have HO_11 := n1_
      have BK582 := n2_
      have BK583 := n3_
      have HB := n4_
      clear n0_ n1_ n2_ n3_ n4_
      refine start_ (n := 12) (S := fun w' => w'.cell? ⟨gb582, 0, none⟩ = some (.int .i64 a1_0) ∧ w'.cell? ⟨gb582, 1, none⟩ = some (.int .i64 a1_1) ∧ w'.cell? ⟨gb582, 2, none⟩ = some (.int .i64 a1_2) ∧ w'.cell? ⟨gb582, 3, none⟩ = some (.int .i64 a1_3) ∧ w'.cell? ⟨gb583, 0, none⟩ = some (.int .i64 a2_0) ∧ w'.cell? ⟨gb583, 1, none⟩ = some (.int .i64 a2_1) ∧ w'.cell? ⟨gb583, 2, none⟩ = some (.int .i64 a2_2)) (ds := []) #[Z, Z, Z, Z, Z, Z, Z, Z, Z, Z, Z, Z] (by kernel_rfl) rfl rfl ⟨cA BK582 0, cA BK582 1, cA BK582 2, cA BK582 3, cA BK583 0, cA BK583 1, cA BK583 2⟩ (fun hHeld => ?_); refine with_tabW laws_FnExactFixedBalls.tab13 laws_FnExactFixedBalls.bits13 (fun HT_ HW_ => ?_)
      generalize w40.drew = w41 at HO_9 HO_11 BK582 BK583 HB hHeld ⊢
      refine pure_ (i := 0) (N := some 58) (v := ?_) (a' := ?_) #[Y, Z, Z, Z, Z, Z, Z, Z, Z, Z, Z, Z] rfl rfl (any_of HT_.out (by kernel_rfl)) (fun _ _ _ h => h) (Or.inl ⟨by rfl, ?_⟩) ?_ ?_
      rotate_left
      ·
       intro w'
       go_simp
       with_reducible rfl
      rotate_left
      ·
       simp only [pA]
       rfl
      refine pure_ (i := 5) (N := some 63) (v := ?_) (a' := ?_) #[Y, Z, Z, Z, Z, Y, Z, Z, Z, Z, Z, Z] rfl rfl (any_of HT_.out (by kernel_rfl)) (fun _ _ _ h => h) (Or.inl ⟨by rfl, ?_⟩) ?_ ?_
      rotate_left
      ·
       intro w'
       go_simp
       with_reducible rfl
      rotate_left
      ·
       simp only [pA]
       rfl
      refine take_ (i := 1) (N := some 59) (v := ?_) (a' := ?_) #[Y, Y, Z, Z, Z, Y, Z, Z, Z, Z, Z, Z] rfl rfl (take_ofW HT_.out HW_.out (by kernel_rfl)) (fun _ _ _ h => h) (Or.inl ⟨by rfl, ?_⟩) hHeld ?_ ?_
      rotate_left
      ·
       rintro w' ⟨s0, s1, s2, s3, s4, s5, s6⟩
       go_simp
       with_reducible rfl
      rotate_left
      ·
       simp only [pA]
       rfl
      refine take_ (i := 3) (N := some 61) (v := ?_) (a' := ?_) #[Y, Y, Z, Y, Z, Y, Z, Z, Z, Z, Z, Z] rfl rfl (take_ofW HT_.out HW_.out (by kernel_rfl)) (fun _ _ _ h => h) (Or.inl ⟨by rfl, ?_⟩) hHeld ?_ ?_
      rotate_left
      ·
       rintro w' ⟨s0, s1, s2, s3, s4, s5, s6⟩
       go_simp
       with_reducible rfl
      rotate_left
      ·
       simp only [pA]
       rfl
      refine one_ (i := 2) (N := some 60) #[Y, Y, Y, Y, Z, Y, Z, Z, Z, Z, Z, Z] rfl rfl (one_of HT_.out (by kernel_rfl)) (by decide) (fun K hK => ?_)
      refine goes_ Try.func12 (by kernel_rfl) rfl #[.agg #[.int .i64 a1_0, .int .i64 a1_1, .int .i64 a1_2, .int .i64 a1_3]] (by rfl) rfl rfl hA ?_
      with_reducible refine (laws_toMatrix.calls a1_0 a1_1 a1_2 a1_3 t610 t611 t612 t613 _ A35.out).mono ?_
      rintro e w42 ⟨rfl, hb⟩
      refine ⟨_, rfl, ?_⟩
      replace HO_9 := Aside0.mk (Kd.R_below (rA HO_9) hb)
      replace HO_11 := Aside0.mk (Kd.R_below (rA HO_11) hb)
      replace BK582 := kB BK582 hb
      replace BK583 := kB BK583 hb
      replace HB := lB hb
      (try clear hb)
      (try clear hb2)
      (try clear hk)
      (try clear hi)
      refine hK.out _ _ ⟨cA BK582 0, cA BK582 1, cA BK582 2, cA BK582 3, cA BK583 0, cA BK583 1, cA BK583 2⟩ (fun hHeld => ?_)
      clear hK K
      refine norm_ (a' := ?_) ?_ ?_
      rotate_left
      ·
       show Act.put _ (some 60) _ = _
       simp only [pA]
       rfl
      refine one_ (i := 4) (N := some 62) #[Y, Y, Y, Y, Y, Y, Z, Z, Z, Z, Z, Z] rfl rfl (one_of HT_.out (by kernel_rfl)) (by decide) (fun K hK => ?_)
      refine goes_ Try.func20 (by kernel_rfl) rfl #[.agg #[.int .i64 a2_0, .int .i64 a2_1, .int .i64 a2_2]] (by rfl) rfl rfl hA ?_
      with_reducible refine (laws_toBall.calls a2_0 a2_1 a2_2 t614 t615 t616 _ A36.out).mono ?_
      rintro e w43 ⟨rfl, hb⟩
      refine ⟨_, rfl, ?_⟩
      replace HO_9 := Aside0.mk (Kd.R_below (rA HO_9) hb)
      replace HO_11 := Aside0.mk (Kd.R_below (rA HO_11) hb)
      replace BK582 := kB BK582 hb
      replace BK583 := kB BK583 hb
      replace HB := lB hb
      (try clear hb)
      (try clear hb2)
      (try clear hk)
      (try clear hi)
      refine hK.out _ _ ⟨cA BK582 0, cA BK582 1, cA BK582 2, cA BK582 3, cA BK583 0, cA BK583 1, cA BK583 2⟩ (fun hHeld => ?_)
      clear hK K
      refine norm_ (a' := ?_) ?_ ?_
      rotate_left
      ·
       show Act.put _ (some 62) _ = _
       simp only [pA]
       rfl
      refine one_ (i := 6) (N := some 64) #[Y, Y, Y, Y, Y, Y, Y, Z, Z, Z, Z, Z] rfl rfl (one_of HT_.out (by kernel_rfl)) (by decide) (fun K hK => ?_)
      refine goes_ Try.func21 (by kernel_rfl) rfl #[.int .i64 a0, .agg #[.int .i64 t610, .int .i64 t611, .int .i64 t612, .int .i64 t613], .agg #[.int .i64 t614, .int .i64 t615, .int .i64 t616], .int .i64 a3] (by rfl) rfl rfl hA ?_
      with_reducible refine (impl_FixedBalls.calls kj10 a0 t610 t611 t612 t613 t614 t615 t616 a3 t617 t620 _ A37.out).mono ?_
      rintro e w44 ⟨v618, rfl, ho0, hb⟩
      refine ⟨_, rfl, ?_⟩
      have HO619 := Aside0.mk (Kd.R_lower (Kd.R_new' (Kd.R_new' ho0 (Kd.R_lt (rA HO_9))) (Kd.R_lt (rA HO_11))) (below_size blA))
      replace HO_9 := Aside0.mk (Kd.R_elder' (rA HO_9) (Kd.R_base ho0) hb)
      replace HO_11 := Aside0.mk (Kd.R_elder' (rA HO_11) (Kd.R_base ho0) hb)
      replace BK582 := kB BK582 hb
      replace BK583 := kB BK583 hb
      replace HB := lB hb
      (try clear hb)
      (try clear hb2)
      (try clear hk)
      (try clear hi)
      (try clear ho0)
      refine hK.out _ _ ⟨cA BK582 0, cA BK582 1, cA BK582 2, cA BK582 3, cA BK583 0, cA BK583 1, cA BK583 2⟩ (fun hHeld => ?_)
      clear hK K
      refine norm_ (a' := ?_) ?_ ?_
      rotate_left
      ·
       show Act.put _ (some 64) _ = _
       simp only [pA]
       rfl
      refine pure_ (i := 7) (N := some 57) (v := ?_) (a' := ?_) #[Y, Y, Y, Y, Y, Y, Y, Y, Z, Z, Z, Z] rfl rfl (any_of HT_.out (by kernel_rfl)) (fun _ _ _ h => h) (Or.inl ⟨by rfl, ?_⟩) ?_ ?_
      rotate_left
      ·
       intro w'
       go_simp
       with_reducible rfl
      rotate_left
      ·
       simp only [pA]
       rfl
      refine pure_ (i := 8) (N := some 65) (v := ?_) (a' := ?_) #[Y, Y, Y, Y, Y, Y, Y, Y, Y, Z, Z, Z] rfl rfl (any_of HT_.out (by kernel_rfl)) (fun _ _ _ h => h) (Or.inl ⟨by rfl, ?_⟩) ?_ ?_
      rotate_left
      ·
       intro w'
       go_simp
       with_reducible rfl
      rotate_left
      ·
       simp only [pA]
       rfl
      refine pure_ (i := 9) (N := some 66) (v := ?_) (a' := ?_) #[Y, Y, Y, Y, Y, Y, Y, Y, Y, Y, Z, Z] rfl rfl (any_of HT_.out (by kernel_rfl)) (fun _ _ _ h => h) (Or.inl ⟨by rfl, ?_⟩) ?_ ?_
      rotate_left
      ·
       intro w'
       go_simp
       with_reducible rfl
      rotate_left
      ·
       simp only [pA]
       rfl
      refine pure_ (i := 10) (N := some 15) (v := ?_) (a' := ?_) #[Y, Y, Y, Y, Y, Y, Y, Y, Y, Y, Y, Z] rfl rfl (any_of HT_.out (by kernel_rfl)) (fun _ _ _ h => h) (Or.inl ⟨by rfl, ?_⟩) ?_ ?_
      rotate_left
      ·
       intro w'
       go_simp
       with_reducible rfl
      rotate_left
      ·
       simp only [pA]
       rfl
      refine pure_ (i := 11) (N := some 16) (v := ?_) (a' := ?_) #[Y, Y, Y, Y, Y, Y, Y, Y, Y, Y, Y, Y] rfl rfl (any_of HT_.out (by kernel_rfl)) (fun _ _ _ h => h) (Or.inl ⟨by rfl, ?_⟩) ?_ ?_
      rotate_left
      ·
       intro w'
       go_simp
       with_reducible rfl
      rotate_left
      ·
       simp only [pA]
       rfl
      refine done_ (done_of HT_.out (by kernel_rfl)) ?_
      go_upto_region 14 with (fail)
      go_cut [75] (fun v75 wc => ∃ (kq : Nat) (x75_37 : Bool), v75 = .bool x75_37 ∧ Aside0 (laws_FnExactFixedBalls.j1 kq t608 t607 x75_37 = some r) ∧ Aside0 (kq ≤ kj10) ∧ Aside0 (Kd.R k39 39 wc w.heap.size (fun _ => True) (.slice Ao39 t602.length co39) t608) ∧ Aside0 (wc.heap[gb582]? = some (.cells #[.int .i64 a1_0, .int .i64 a1_1, .int .i64 a1_2, .int .i64 a1_3] 23 (0, 0))) ∧ Aside0 (wc.heap[gb583]? = some (.cells #[.int .i64 a2_0, .int .i64 a2_1, .int .i64 a2_2] 35 (0, 0))) ∧ Aside0 (Below w.heap.size w wc))
      case first =>
       have H := HC38.out
       clear HC38
       replace H := bS H
       obtain ⟨t621, A45, H⟩ := H
       try dsimp only at H
       by_cases c46 : t621 = true
       ·
        subst c46
        rw [if_pos rfl] at H
        try dsimp only at H
        have H' := Aside0.mk H
        clear H
        obtain ⟨Ao47, co47, eo47⟩ := Kd.R_slice HO619.out
        subst eo47
        obtain ⟨Ao48, co48, eo48⟩ := Kd.R_slice HO_9.out
        subst eo48
        go_wp2_with (first | ((with_reducible refine gate_callee (f := 22) rfl ?_); refine goesL_ (some 69) rfl rfl Try.func22 (by kernel_rfl) rfl #[.slice Ao47 t617.length co47, .slice Ao48 t591.length co48] rfl hA ?_; (with_reducible refine (laws_eqBallS.calls kj10 _ _ t617 _ _ t591 true _ ?side1 ?side2 ?side3 ?side4 A45.out).mono ?_); (case side1 => repeat (first | exact (Kd.R_reads' HO619.out).2.2 | (with_reducible refine Kd.C_alloc ?_ _) | (with_reducible refine Kd.C_drewN ?_ _) | (with_reducible refine Kd.C_drew ?_))); (case side2 => exact (Kd.R_reads' HO619.out).2.1); (case side3 => repeat (first | exact (Kd.R_reads' HO_9.out).2.2 | (with_reducible refine Kd.C_alloc ?_ _) | (with_reducible refine Kd.C_drewN ?_ _) | (with_reducible refine Kd.C_drew ?_))); (case side4 => exact (Kd.R_reads' HO_9.out).2.1); rintro e w49 ⟨rfl, hb⟩; refine ⟨_, rfl, ?_⟩; have n0_ := Aside0.mk (Kd.R_below (rA HO_9) hb); have n1_ := Aside0.mk (Kd.R_below (rA HO_11) hb); have n2_ := Aside0.mk (Kd.R_below (rA HO619) hb); have n3_ := kB BK582 hb; have n4_ := kB BK583 hb; have n5_ := lB hb; clear HO_9; clear HO_11; clear HO619; clear BK582; clear BK583; clear HB; have HO_9 := n0_; have HO_11 := n1_; have HO619 := n2_; have BK582 := n3_; have BK583 := n4_; have HB := n5_; clear n0_ n1_ n2_ n3_ n4_ n5_; (try clear hb); (try clear hb2); (try clear hk); (try clear hi)))
        go_meet
        case rel => exact ⟨_, ((t620 != t594)), hB, H', ⟨by have := HJ10.out; first | omega | exact Nat.le_refl _⟩, ⟨by (with_reducible repeat (first | apply Kd.R_alloc | apply Kd.R_drewN | apply Kd.R_drew)); exact Kd.R_mono HO_11.out (fun _ hk => trivial)⟩, ⟨bkA BK582⟩, ⟨bkA BK583⟩, ⟨blA⟩⟩
       ·
        replace c46 := Bool.eq_false_iff.mpr c46
        subst c46
        rw [if_neg (show ¬ (false = true) by decide)] at H
        try dsimp only at H
        have H' := Aside0.mk H
        clear H
        obtain ⟨Ao50, co50, eo50⟩ := Kd.R_slice HO619.out
        subst eo50
        obtain ⟨Ao51, co51, eo51⟩ := Kd.R_slice HO_9.out
        subst eo51
        go_wp2_with (first | ((with_reducible refine gate_callee (f := 22) rfl ?_); refine goesL_ (some 69) rfl rfl Try.func22 (by kernel_rfl) rfl #[.slice Ao50 t617.length co50, .slice Ao51 t591.length co51] rfl hA ?_; (with_reducible refine (laws_eqBallS.calls kj10 _ _ t617 _ _ t591 false _ ?side1 ?side2 ?side3 ?side4 A45.out).mono ?_); (case side1 => repeat (first | exact (Kd.R_reads' HO619.out).2.2 | (with_reducible refine Kd.C_alloc ?_ _) | (with_reducible refine Kd.C_drewN ?_ _) | (with_reducible refine Kd.C_drew ?_))); (case side2 => exact (Kd.R_reads' HO619.out).2.1); (case side3 => repeat (first | exact (Kd.R_reads' HO_9.out).2.2 | (with_reducible refine Kd.C_alloc ?_ _) | (with_reducible refine Kd.C_drewN ?_ _) | (with_reducible refine Kd.C_drew ?_))); (case side4 => exact (Kd.R_reads' HO_9.out).2.1); rintro e w52 ⟨rfl, hb⟩; refine ⟨_, rfl, ?_⟩; have n0_ := Aside0.mk (Kd.R_below (rA HO_9) hb); have n1_ := Aside0.mk (Kd.R_below (rA HO_11) hb); have n2_ := Aside0.mk (Kd.R_below (rA HO619) hb); have n3_ := kB BK582 hb; have n4_ := kB BK583 hb; have n5_ := lB hb; clear HO_9; clear HO_11; clear HO619; clear BK582; clear BK583; clear HB; have HO_9 := n0_; have HO_11 := n1_; have HO619 := n2_; have BK582 := n3_; have BK583 := n4_; have HB := n5_; clear n0_ n1_ n2_ n3_ n4_ n5_; (try clear hb); (try clear hb2); (try clear hk); (try clear hi)))
        go_meet
        case rel => exact ⟨_, (true), hB, H', ⟨by have := HJ10.out; first | omega | exact Nat.le_refl _⟩, ⟨by (with_reducible repeat (first | apply Kd.R_alloc | apply Kd.R_drewN | apply Kd.R_drew)); exact Kd.R_mono HO_11.out (fun _ hk => trivial)⟩, ⟨bkA BK582⟩, ⟨bkA BK583⟩, ⟨blA⟩⟩
      case rest =>
       clear HC38
       try clear c1
       try clear c2
       try clear p2
       try clear c3
       try clear c4
       try clear c5
       try clear c12
       try clear c19
       try clear c20
       try clear c21
       try clear c22
       try clear c23
       try clear c24
       try clear c30
       try clear c33
       try clear c33b0
       try clear c34
       try clear c34b0
       try clear c34b1
       try clear c46
       try clear p2
       obtain ⟨kq, x75_37, rfl, HA, HJ37, HO_11, BK582, BK583, HB⟩ := hcut
       have hl11_37 := (Kd.R_reads' HO_11.out).1
       rw [hl11_37] at HO_11
       (try simp only [hl11_37])
       (try simp only [hl11_37] at BK582)
       (try simp only [hl11_37] at BK583)
       cases kq with
       | zero => exact absurd HA.out (by simp [laws_FnExactFixedBalls.j1])
       | succ kj37 =>
        have H := HA.out
        clear HA
        simp only [laws_FnExactFixedBalls.j1] at H
        by_cases c53 : x75_37 = true
        ·
         subst c53
         rw [if_pos rfl] at H
         try dsimp only at H
         exact absurd H (by simp)
        ·
         replace c53 := Bool.eq_false_iff.mpr c53
         subst c53
         rw [if_neg (show ¬ (false = true) by decide)] at H
         try dsimp only at H
         replace H := bS H
         obtain ⟨t622, A54, H⟩ := H
         try dsimp only at H
         by_cases c55 : t622 < 0
         ·
          rw [if_pos c55] at H
          exact absurd H (by simp)
         ·
          rw [if_neg c55] at H
          have c55b0 := decide_eq_false c55
          clear c55
          by_cases c56 : t622 = t607
          ·
           rw [if_pos c56] at H
           have c56b0 : (t622 == t607) = true := beq_iff_eq.mpr c56
           have c56b1 : (t622 != t607) = false := bne_eq_false_iff_eq.mpr c56
           clear c56
           obtain rfl := Option.some.inj H
           go_wp2_with (first | ((with_reducible refine gate_callee (f := 24) rfl ?_); refine goesL_ (some 78) rfl rfl Try.func24 (by kernel_rfl) rfl #[.slice Ao39 t608.length co39, .int .i64 1] rfl hA ?_; (with_reducible refine (laws_heldBallS.calls kj37 _ _ t608 1 t622 _ ?side1 ?side2 A54.out).mono ?_); (case side1 => repeat (first | exact (Kd.R_reads' HO_11.out).2.2 | (with_reducible refine Kd.C_alloc ?_ _) | (with_reducible refine Kd.C_drewN ?_ _) | (with_reducible refine Kd.C_drew ?_))); (case side2 => exact (Kd.R_reads' HO_11.out).2.1); rintro e w' ⟨rfl, ⟨nd, rfl⟩⟩; refine ⟨_, rfl, ?_⟩))
           go_ret
           exact finA blA
          ·
           rw [if_neg c56] at H
           exact absurd H (by simp)
     ·
      rw [if_neg c34] at H
      exact absurd H (by simp)
end Go.Proofs.Ytccpccnnbacgjaa.PAll
