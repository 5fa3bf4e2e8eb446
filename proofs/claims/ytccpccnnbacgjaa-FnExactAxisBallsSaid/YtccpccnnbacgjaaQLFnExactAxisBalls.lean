-- turned for this claim out of the kit's print: the same functions, packed anew
import Derived.Test.YtccpccnnbacgjaaQx
import Derived.Test.YtccpccnnbacgjaaQLheldBallS
import Derived.Test.YtccpccnnbacgjaaQLtoBall
import Derived.Test.YtccpccnnbacgjaaQimplAxisBalls
import Derived.Test.YtccpccnnbacgjaaQspecl04Kind
namespace Go.Proofs.Ytccpccnnbacgjaa.PAll
open Go.RowKit Go.Proofs.YtccpccnnbacgjaaW.PrintWords Go.Proofs.YtccpccnnbacgjaaW.PrintLast Go.Proofs.YtccpccnnbacgjaaW.PrintMore
attribute [local go_sem] Go.Proofs.Ytccpccnnbacgjaa.Aux.setCell_drewN Go.Proofs.Ytccpccnnbacgjaa.Aux.isSome_setCell max2_int min2_int max_two min_two max_three min_three max_four min_four   -- for this text's walks alone
set_option linter.unusedVariables false
set_option linter.unusedSimpArgs false
/-! ### laws_FnExactAxisBalls: function 6 -/
mutual
def laws_FnExactAxisBalls.j0 : Nat → Int → Int → List (S39) → Int → List (S39) → Bool → Int → Int → Int → Int → Int → Int → Int → Option (Bool)
 | 0, _, _, _, _, _, _, _, _, _, _, _, _, _ => none
 | k + 1, x0, x3, x9, x10, x11, x45, x655000, x655001, x655002, x655003, x656000, x656001, x656002 => if x45 = true then (none) else ((laws_markBallS.f k x11 1).bind fun bt679 => ((laws_heldBallS.f k bt679.2 1).bind fun t681 => (if t681 < 0 then (none) else (if t681 = bt679.1 then ((laws_toMatrix.f x655000 x655001 x655002 x655003).bind fun bt682 => ((laws_toBall.f x656000 x656001 x656002).bind fun bt686 => ((impl_AxisBalls.f k x0 bt682.1 bt682.2.1 bt682.2.2.1 bt682.2.2.2 bt686.1 bt686.2.1 bt686.2.2 x3).bind fun bt689 => ((laws_eqBallS.f k bt689.1 x9).bind fun t693 => (if t693 = true then (laws_FnExactAxisBalls.j1 k bt679.2 bt679.1 (bt689.2 != x10)) else (laws_FnExactAxisBalls.j1 k bt679.2 bt679.1 true)))))) else (none)))))
def laws_FnExactAxisBalls.j1 : Nat → List (S39) → Int → Bool → Option (Bool)
 | 0, _, _, _ => none
 | k + 1, x11, x13, x75 => if x75 = true then (none) else ((laws_heldBallS.f k x11 1).bind fun t694 => (if t694 < 0 then (none) else (if t694 = x13 then (some true) else (none))))
end
def laws_FnExactAxisBalls.f (k : Nat) (a0 : Int) (a1_0 : Int) (a1_1 : Int) (a1_2 : Int) (a1_3 : Int) (a2_0 : Int) (a2_1 : Int) (a2_2 : Int) (a3 : Int) : Option (Bool) := (laws_toMatrix.f a1_0 a1_1 a1_2 a1_3).bind fun bt656 => ((laws_toBall.f a2_0 a2_1 a2_2).bind fun bt660 => ((spec_AxisBalls.f k a0 bt656.1 bt656.2.1 bt656.2.2.1 bt656.2.2.2 bt660.1 bt660.2.1 bt660.2.2 a3).bind fun bt663 => ((laws_toMatrix.f a1_0 a1_1 a1_2 a1_3).bind fun bt667 => ((laws_toBall.f a2_0 a2_1 a2_2).bind fun bt671 => ((impl_AxisBalls.f k a0 bt667.1 bt667.2.1 bt667.2.2.1 bt667.2.2.2 bt671.1 bt671.2.1 bt671.2.2 a3).bind fun bt674 => ((laws_eqBallS.f k bt674.1 bt663.1).bind fun t678 => (if t678 = true then (laws_FnExactAxisBalls.j0 k a0 a3 bt663.1 bt663.2 bt674.1 (bt674.2 != bt663.2) a1_0 a1_1 a1_2 a1_3 a2_0 a2_1 a2_2) else (laws_FnExactAxisBalls.j0 k a0 a3 bt663.1 bt663.2 bt674.1 true a1_0 a1_1 a1_2 a1_3 a2_0 a2_1 a2_2))))))))
theorem laws_FnExactAxisBalls.mono_l : ∀ k, (∀ y0 y1 y2 y3 y4 y5 y6 y7 y8 y9 y10 y11 y12, LeO (laws_FnExactAxisBalls.j0 k y0 y1 y2 y3 y4 y5 y6 y7 y8 y9 y10 y11 y12) (laws_FnExactAxisBalls.j0 (k + 1) y0 y1 y2 y3 y4 y5 y6 y7 y8 y9 y10 y11 y12)) ∧ (∀ y0 y1 y2, LeO (laws_FnExactAxisBalls.j1 k y0 y1 y2) (laws_FnExactAxisBalls.j1 (k + 1) y0 y1 y2))
 | 0 => ⟨fun _ _ _ _ _ _ _ _ _ _ _ _ _ r h => by simp [laws_FnExactAxisBalls.j0] at h, fun _ _ _ r h => by simp [laws_FnExactAxisBalls.j1] at h⟩
 | k + 1 => by
  obtain ⟨ih0, ih1⟩ := laws_FnExactAxisBalls.mono_l k
  refine ⟨?_, ?_⟩
  ·
   intro y0 y1 y2 y3 y4 y5 y6 y7 y8 y9 y10 y11 y12
   unfold laws_FnExactAxisBalls.j0
   repeat' first
   | (with_reducible exact ih0 _ _ _ _ _ _ _ _ _ _ _ _ _)
   | (with_reducible exact ih1 _ _ _)
   | (with_reducible exact impl_AxisBalls.mono _ _ _ _ _ _ _ _ _ _)
   | (with_reducible exact laws_eqBallS.mono _ _ _)
   | (with_reducible exact laws_heldBallS.mono _ _ _)
   | (with_reducible exact laws_markBallS.mono _ _ _)
   | (with_reducible exact spec_AxisBalls.mono _ _ _ _ _ _ _ _ _ _)
   | (with_reducible exact LeO.refl _)
   | (with_reducible exact LeO.none _)
   | (with_reducible refine LeO.ite ?_ ?_)
   | (with_reducible refine LeO.bind ?_ (fun _ => ?_))
  ·
   intro y0 y1 y2
   unfold laws_FnExactAxisBalls.j1
   repeat' first
   | (with_reducible exact ih0 _ _ _ _ _ _ _ _ _ _ _ _ _)
   | (with_reducible exact ih1 _ _ _)
   | (with_reducible exact impl_AxisBalls.mono _ _ _ _ _ _ _ _ _ _)
   | (with_reducible exact laws_eqBallS.mono _ _ _)
   | (with_reducible exact laws_heldBallS.mono _ _ _)
   | (with_reducible exact laws_markBallS.mono _ _ _)
   | (with_reducible exact spec_AxisBalls.mono _ _ _ _ _ _ _ _ _ _)
   | (with_reducible exact LeO.refl _)
   | (with_reducible exact LeO.none _)
   | (with_reducible refine LeO.ite ?_ ?_)
   | (with_reducible refine LeO.bind ?_ (fun _ => ?_))
theorem laws_FnExactAxisBalls.mono : ∀ a0 a1 a2 a3 a4 a5 a6 a7 a8 k, LeO (laws_FnExactAxisBalls.f k a0 a1 a2 a3 a4 a5 a6 a7 a8) (laws_FnExactAxisBalls.f (k + 1) a0 a1 a2 a3 a4 a5 a6 a7 a8) := by
 intro a0 a1 a2 a3 a4 a5 a6 a7 a8 k
 obtain ⟨ih0, ih1⟩ := laws_FnExactAxisBalls.mono_l k
 unfold laws_FnExactAxisBalls.f
 repeat' first
   | (with_reducible exact ih0 _ _ _ _ _ _ _ _ _ _ _ _ _)
   | (with_reducible exact ih1 _ _ _)
   | (with_reducible exact impl_AxisBalls.mono _ _ _ _ _ _ _ _ _ _)
   | (with_reducible exact laws_eqBallS.mono _ _ _)
   | (with_reducible exact laws_heldBallS.mono _ _ _)
   | (with_reducible exact laws_markBallS.mono _ _ _)
   | (with_reducible exact spec_AxisBalls.mono _ _ _ _ _ _ _ _ _ _)
   | (with_reducible exact LeO.refl _)
   | (with_reducible exact LeO.none _)
   | (with_reducible refine LeO.ite ?_ ?_)
   | (with_reducible refine LeO.bind ?_ (fun _ => ?_))
def laws_FnExactAxisBalls.T1 : Bool × List (List Nat × List Nat) := (true, [([], []), ([], []), ([1], [1]), ([], []), ([3, 2], [3]), ([], []), ([0, 2, 4, 5, 4], [0, 2, 4, 5]), ([6], [6]), ([7], [7]), ([7], [7]), ([8, 6, 0, 1, 2, 3, 4, 5, 6, 7, 8], [8]), ([9, 10, 0, 1, 2, 3, 4, 5, 6, 7, 8, 9, 10], [9])])
def laws_FnExactAxisBalls.B1 : List Nat := [0, 0, 2, 0, 14, 0, 63, 127, 255, 255, 511, 2047]
theorem laws_FnExactAxisBalls.tab1 : rtab .any (opsOf Try.f6 1) = laws_FnExactAxisBalls.T1 := by kernel_rfl
theorem laws_FnExactAxisBalls.bits1 : waitsOk laws_FnExactAxisBalls.T1.2 laws_FnExactAxisBalls.B1 = true := by kernel_rfl
def laws_FnExactAxisBalls.T2 : Bool × List (List Nat × List Nat) := (true, [([], []), ([], []), ([1], [1]), ([], []), ([3, 2], [3]), ([], []), ([0, 2, 4, 5, 4], [0, 2, 4, 5]), ([6], [6]), ([7], [7]), ([7], [7]), ([8, 6, 0, 1, 2, 3, 4, 5, 6, 7, 8], [8]), ([9, 10, 0, 1, 2, 3, 4, 5, 6, 7, 8, 9, 10], [9])])
def laws_FnExactAxisBalls.B2 : List Nat := [0, 0, 2, 0, 14, 0, 63, 127, 255, 255, 511, 2047]
theorem laws_FnExactAxisBalls.tab2 : rtab .any (opsOf Try.f6 2) = laws_FnExactAxisBalls.T2 := by kernel_rfl
theorem laws_FnExactAxisBalls.bits2 : waitsOk laws_FnExactAxisBalls.T2.2 laws_FnExactAxisBalls.B2 = true := by kernel_rfl
def laws_FnExactAxisBalls.T13 : Bool × List (List Nat × List Nat) := (true, [([], []), ([], []), ([1], [1]), ([], []), ([3, 2], [3]), ([], []), ([0, 2, 4, 5, 4], [0, 2, 4, 5]), ([6], [6]), ([7], [7]), ([7], [7]), ([8, 6, 0, 1, 2, 3, 4, 5, 6, 7, 8], [8]), ([9, 10, 0, 1, 2, 3, 4, 5, 6, 7, 8, 9, 10], [9])])
def laws_FnExactAxisBalls.B13 : List Nat := [0, 0, 2, 0, 14, 0, 63, 127, 255, 255, 511, 2047]
theorem laws_FnExactAxisBalls.tab13 : rtab .any (opsOf Try.f6 13) = laws_FnExactAxisBalls.T13 := by kernel_rfl
theorem laws_FnExactAxisBalls.bits13 : waitsOk laws_FnExactAxisBalls.T13.2 laws_FnExactAxisBalls.B13 = true := by kernel_rfl
set_option maxHeartbeats 8000000 in
set_option maxRecDepth 100000 in
theorem laws_FnExactAxisBalls.calls (k : Nat) (a0 : Int) (a1_0 : Int) (a1_1 : Int) (a1_2 : Int) (a1_3 : Int) (a2_0 : Int) (a2_1 : Int) (a2_2 : Int) (a3 : Int) (r : Bool) (w : World) (h : laws_FnExactAxisBalls.f k a0 a1_0 a1_1 a1_2 a1_3 a2_0 a2_1 a2_2 a3 = some r) :
  Calls Try.prog 6 #[.int .i64 a0, .agg #[.int .i64 a1_0, .int .i64 a1_1, .int .i64 a1_2, .int .i64 a1_3], .agg #[.int .i64 a2_0, .int .i64 a2_1, .int .i64 a2_2], .int .i64 a3] w fun e w' => e = .returned (.bool r) ∧ Below w.heap.size w w' := by
 have hu23 := Try.underlying23
 have hu35 := Try.underlying35
 have HB := Aside0.mk (Below.refl w.heap.size w)
 have H := h
 unfold laws_FnExactAxisBalls.f at H
 clear h
 replace H := bS H
 obtain ⟨⟨t656, t657, t658, t659⟩, A5, H⟩ := H
 try dsimp only at H
 replace H := bS H
 obtain ⟨⟨t660, t661, t662⟩, A6, H⟩ := H
 try dsimp only at H
 replace H := bS H
 obtain ⟨⟨t663, t666⟩, A7, H⟩ := H
 try dsimp only at H
 replace H := bS H
 obtain ⟨⟨t667, t668, t669, t670⟩, A8, H⟩ := H
 try dsimp only at H
 replace H := bS H
 obtain ⟨⟨t671, t672, t673⟩, A9, H⟩ := H
 try dsimp only at H
 replace H := bS H
 obtain ⟨⟨t674, t677⟩, A10, H⟩ := H
 try dsimp only at H
 have HC11 := Aside0.mk H
 clear H
 go_enter Try.func6, Try.ntmps6
 try go_wp2_with (first | ((with_reducible refine gate_dst (N := 5) rfl ?_); refine box_event ?hg (N := 5) ?hd (cs := #[.int .i64 a1_0, .int .i64 a1_1, .int .i64 a1_2, .int .i64 a1_3]) (t := 23) ?hr ?_; (case hd => rfl); (case hg => rfl); (case hr => first | (go_simp; done) | (go_simp; rfl)); intro gb654 hg w12 hbox hb; have n0_ := lB hb; have n1_ := Aside0.mk (hbox); have n2_ := sA hg; have n3_ := sA hg; clear HB; have HB := n0_; have BK654 := n1_; have GW654 := n2_; have GE654 := n3_; clear n0_ n1_ n2_ n3_; clear hb hbox hg) | ((with_reducible refine gate_dst (N := 6) rfl ?_); refine box_event ?hg (N := 6) ?hd (cs := #[.int .i64 a2_0, .int .i64 a2_1, .int .i64 a2_2]) (t := 35) ?hr ?_; (case hd => rfl); (case hg => rfl); (case hr => first | (go_simp; done) | (go_simp; rfl)); intro gb655 hg w13 hbox hb; have n0_ := kB BK654 hb; have n1_ := lB hb; have n2_ := Aside0.mk (hbox); have n3_ := sA hg; have n4_ := sA hg; have n5_ := nA hg BK654; have n6_ := nB hg BK654; clear BK654; clear HB; have BK654 := n0_; have HB := n1_; have BK655 := n2_; have GW655 := n3_; have GE655 := n4_; have NB654_655 := n5_; have NB655_654 := n6_; clear n0_ n1_ n2_ n3_ n4_ n5_ n6_; clear hb hbox hg))
 have n0_ := Aside0.mk (blk_drew BK654.out)
 have n1_ := Aside0.mk (blk_drew BK655.out)
 have n2_ := Aside0.mk (below_drew1 HB.out)
 clear BK654
 clear BK655
 clear HB
 have BK654 := n0_
 have BK655 := n1_
 have HB := n2_
 clear n0_ n1_ n2_
 refine start_ (n := 12) (S := fun w' => w'.cell? ⟨gb654, 0, none⟩ = some (.int .i64 a1_0) ∧ w'.cell? ⟨gb654, 1, none⟩ = some (.int .i64 a1_1) ∧ w'.cell? ⟨gb654, 2, none⟩ = some (.int .i64 a1_2) ∧ w'.cell? ⟨gb654, 3, none⟩ = some (.int .i64 a1_3) ∧ w'.cell? ⟨gb655, 0, none⟩ = some (.int .i64 a2_0) ∧ w'.cell? ⟨gb655, 1, none⟩ = some (.int .i64 a2_1) ∧ w'.cell? ⟨gb655, 2, none⟩ = some (.int .i64 a2_2)) (ds := []) #[Z, Z, Z, Z, Z, Z, Z, Z, Z, Z, Z, Z] (by kernel_rfl) rfl rfl ⟨cA BK654 0, cA BK654 1, cA BK654 2, cA BK654 3, cA BK655 0, cA BK655 1, cA BK655 2⟩ (fun hHeld => ?_); refine with_tabW laws_FnExactAxisBalls.tab1 laws_FnExactAxisBalls.bits1 (fun HT_ HW_ => ?_)
 generalize w13.drew = w14 at BK654 BK655 HB hHeld ⊢
 refine pure_ (i := 0) (N := some 18) (v := ?_) (a' := ?_) #[Y, Z, Z, Z, Z, Z, Z, Z, Z, Z, Z, Z] rfl rfl (any_of HT_.out (by kernel_rfl)) (fun _ _ _ h => h) (Or.inl ⟨by rfl, ?_⟩) ?_ ?_
 rotate_left
 ·
  intro w'
  go_simp
  with_reducible rfl
 rotate_left
 ·
  simp only [pA]
  rfl
 refine pure_ (i := 5) (N := some 23) (v := ?_) (a' := ?_) #[Y, Z, Z, Z, Z, Y, Z, Z, Z, Z, Z, Z] rfl rfl (any_of HT_.out (by kernel_rfl)) (fun _ _ _ h => h) (Or.inl ⟨by rfl, ?_⟩) ?_ ?_
 rotate_left
 ·
  intro w'
  go_simp
  with_reducible rfl
 rotate_left
 ·
  simp only [pA]
  rfl
 refine take_ (i := 1) (N := some 19) (v := ?_) (a' := ?_) #[Y, Y, Z, Z, Z, Y, Z, Z, Z, Z, Z, Z] rfl rfl (take_ofW HT_.out HW_.out (by kernel_rfl)) (fun _ _ _ h => h) (Or.inl ⟨by rfl, ?_⟩) hHeld ?_ ?_
 rotate_left
 ·
  rintro w' ⟨s0, s1, s2, s3, s4, s5, s6⟩
  go_simp
  with_reducible rfl
 rotate_left
 ·
  simp only [pA]
  rfl
 refine take_ (i := 3) (N := some 21) (v := ?_) (a' := ?_) #[Y, Y, Z, Y, Z, Y, Z, Z, Z, Z, Z, Z] rfl rfl (take_ofW HT_.out HW_.out (by kernel_rfl)) (fun _ _ _ h => h) (Or.inl ⟨by rfl, ?_⟩) hHeld ?_ ?_
 rotate_left
 ·
  rintro w' ⟨s0, s1, s2, s3, s4, s5, s6⟩
  go_simp
  with_reducible rfl
 rotate_left
 ·
  simp only [pA]
  rfl
 refine one_ (i := 2) (N := some 20) #[Y, Y, Y, Y, Z, Y, Z, Z, Z, Z, Z, Z] rfl rfl (one_of HT_.out (by kernel_rfl)) (by decide) (fun K hK => ?_)
 refine goes_ Try.func12 (by kernel_rfl) rfl #[.agg #[.int .i64 a1_0, .int .i64 a1_1, .int .i64 a1_2, .int .i64 a1_3]] (by rfl) rfl rfl hA ?_
 with_reducible refine (laws_toMatrix.calls a1_0 a1_1 a1_2 a1_3 t656 t657 t658 t659 _ A5.out).mono ?_
 rintro e w15 ⟨rfl, hb⟩
 refine ⟨_, rfl, ?_⟩
 replace BK654 := kB BK654 hb
 replace BK655 := kB BK655 hb
 replace HB := lB hb
 (try clear hb)
 (try clear hb2)
 (try clear hk)
 (try clear hi)
 refine hK.out _ _ ⟨cA BK654 0, cA BK654 1, cA BK654 2, cA BK654 3, cA BK655 0, cA BK655 1, cA BK655 2⟩ (fun hHeld => ?_)
 clear hK K
 refine norm_ (a' := ?_) ?_ ?_
 rotate_left
 ·
  show Act.put _ (some 20) _ = _
  simp only [pA]
  rfl
 refine one_ (i := 4) (N := some 22) #[Y, Y, Y, Y, Y, Y, Z, Z, Z, Z, Z, Z] rfl rfl (one_of HT_.out (by kernel_rfl)) (by decide) (fun K hK => ?_)
 refine goes_ Try.func20 (by kernel_rfl) rfl #[.agg #[.int .i64 a2_0, .int .i64 a2_1, .int .i64 a2_2]] (by rfl) rfl rfl hA ?_
 with_reducible refine (laws_toBall.calls a2_0 a2_1 a2_2 t660 t661 t662 _ A6.out).mono ?_
 rintro e w16 ⟨rfl, hb⟩
 refine ⟨_, rfl, ?_⟩
 replace BK654 := kB BK654 hb
 replace BK655 := kB BK655 hb
 replace HB := lB hb
 (try clear hb)
 (try clear hb2)
 (try clear hk)
 (try clear hi)
 refine hK.out _ _ ⟨cA BK654 0, cA BK654 1, cA BK654 2, cA BK654 3, cA BK655 0, cA BK655 1, cA BK655 2⟩ (fun hHeld => ?_)
 clear hK K
 refine norm_ (a' := ?_) ?_ ?_
 rotate_left
 ·
  show Act.put _ (some 22) _ = _
  simp only [pA]
  rfl
 refine one_ (i := 6) (N := some 24) #[Y, Y, Y, Y, Y, Y, Y, Z, Z, Z, Z, Z] rfl rfl (one_of HT_.out (by kernel_rfl)) (by decide) (fun K hK => ?_)
 refine goes_ Try.func25 (by kernel_rfl) rfl #[.int .i64 a0, .agg #[.int .i64 t656, .int .i64 t657, .int .i64 t658, .int .i64 t659], .agg #[.int .i64 t660, .int .i64 t661, .int .i64 t662], .int .i64 a3] (by rfl) rfl rfl hA ?_
 with_reducible refine (spec_AxisBalls.calls k a0 t656 t657 t658 t659 t660 t661 t662 a3 t663 t666 _ A7.out).mono ?_
 rintro e w17 ⟨v664, rfl, ho0, hb⟩
 refine ⟨_, rfl, ?_⟩
 have HO665 := Aside0.mk (Kd.R_lower ho0 (below_size blA))
 replace BK654 := kB BK654 hb
 replace BK655 := kB BK655 hb
 replace HB := lB hb
 (try clear hb)
 (try clear hb2)
 (try clear hk)
 (try clear hi)
 (try clear ho0)
 refine hK.out _ _ ⟨cA BK654 0, cA BK654 1, cA BK654 2, cA BK654 3, cA BK655 0, cA BK655 1, cA BK655 2⟩ (fun hHeld => ?_)
 clear hK K
 refine norm_ (a' := ?_) ?_ ?_
 rotate_left
 ·
  show Act.put _ (some 24) _ = _
  simp only [pA]
  rfl
 refine pure_ (i := 7) (N := some 17) (v := ?_) (a' := ?_) #[Y, Y, Y, Y, Y, Y, Y, Y, Z, Z, Z, Z] rfl rfl (any_of HT_.out (by kernel_rfl)) (fun _ _ _ h => h) (Or.inl ⟨by rfl, ?_⟩) ?_ ?_
 rotate_left
 ·
  intro w'
  go_simp
  with_reducible rfl
 rotate_left
 ·
  simp only [pA]
  rfl
 refine pure_ (i := 8) (N := some 25) (v := ?_) (a' := ?_) #[Y, Y, Y, Y, Y, Y, Y, Y, Y, Z, Z, Z] rfl rfl (any_of HT_.out (by kernel_rfl)) (fun _ _ _ h => h) (Or.inl ⟨by rfl, ?_⟩) ?_ ?_
 rotate_left
 ·
  intro w'
  go_simp
  with_reducible rfl
 rotate_left
 ·
  simp only [pA]
  rfl
 refine pure_ (i := 9) (N := some 26) (v := ?_) (a' := ?_) #[Y, Y, Y, Y, Y, Y, Y, Y, Y, Y, Z, Z] rfl rfl (any_of HT_.out (by kernel_rfl)) (fun _ _ _ h => h) (Or.inl ⟨by rfl, ?_⟩) ?_ ?_
 rotate_left
 ·
  intro w'
  go_simp
  with_reducible rfl
 rotate_left
 ·
  simp only [pA]
  rfl
 refine pure_ (i := 10) (N := some 9) (v := ?_) (a' := ?_) #[Y, Y, Y, Y, Y, Y, Y, Y, Y, Y, Y, Z] rfl rfl (any_of HT_.out (by kernel_rfl)) (fun _ _ _ h => h) (Or.inl ⟨by rfl, ?_⟩) ?_ ?_
 rotate_left
 ·
  intro w'
  go_simp
  with_reducible rfl
 rotate_left
 ·
  simp only [pA]
  rfl
 refine pure_ (i := 11) (N := some 10) (v := ?_) (a' := ?_) #[Y, Y, Y, Y, Y, Y, Y, Y, Y, Y, Y, Y] rfl rfl (any_of HT_.out (by kernel_rfl)) (fun _ _ _ h => h) (Or.inl ⟨by rfl, ?_⟩) ?_ ?_
 rotate_left
 ·
  intro w'
  go_simp
  with_reducible rfl
 rotate_left
 ·
  simp only [pA]
  rfl
 refine done_ (done_of HT_.out (by kernel_rfl)) ?_
 try go_wp2
 have n0_ := Aside0.mk (Kd.R_drew HO665.out)
 have n1_ := Aside0.mk (blk_drew BK654.out)
 have n2_ := Aside0.mk (blk_drew BK655.out)
 have n3_ := Aside0.mk (below_drew1 HB.out)
 clear HO665
 clear BK654
 clear BK655
 clear HB
 have HO665 := n0_
 have BK654 := n1_
 have BK655 := n2_
 have HB := n3_
 clear n0_ n1_ n2_ n3_
 refine start_ (n := 12) (S := fun w' => w'.cell? ⟨gb654, 0, none⟩ = some (.int .i64 a1_0) ∧ w'.cell? ⟨gb654, 1, none⟩ = some (.int .i64 a1_1) ∧ w'.cell? ⟨gb654, 2, none⟩ = some (.int .i64 a1_2) ∧ w'.cell? ⟨gb654, 3, none⟩ = some (.int .i64 a1_3) ∧ w'.cell? ⟨gb655, 0, none⟩ = some (.int .i64 a2_0) ∧ w'.cell? ⟨gb655, 1, none⟩ = some (.int .i64 a2_1) ∧ w'.cell? ⟨gb655, 2, none⟩ = some (.int .i64 a2_2)) (ds := []) #[Z, Z, Z, Z, Z, Z, Z, Z, Z, Z, Z, Z] (by kernel_rfl) rfl rfl ⟨cA BK654 0, cA BK654 1, cA BK654 2, cA BK654 3, cA BK655 0, cA BK655 1, cA BK655 2⟩ (fun hHeld => ?_); refine with_tabW laws_FnExactAxisBalls.tab2 laws_FnExactAxisBalls.bits2 (fun HT_ HW_ => ?_)
 generalize w17.drew = w18 at HO665 BK654 BK655 HB hHeld ⊢
 refine pure_ (i := 0) (N := some 28) (v := ?_) (a' := ?_) #[Y, Z, Z, Z, Z, Z, Z, Z, Z, Z, Z, Z] rfl rfl (any_of HT_.out (by kernel_rfl)) (fun _ _ _ h => h) (Or.inl ⟨by rfl, ?_⟩) ?_ ?_
 rotate_left
 ·
  intro w'
  go_simp
  with_reducible rfl
 rotate_left
 ·
  simp only [pA]
  rfl
 refine pure_ (i := 5) (N := some 33) (v := ?_) (a' := ?_) #[Y, Z, Z, Z, Z, Y, Z, Z, Z, Z, Z, Z] rfl rfl (any_of HT_.out (by kernel_rfl)) (fun _ _ _ h => h) (Or.inl ⟨by rfl, ?_⟩) ?_ ?_
 rotate_left
 ·
  intro w'
  go_simp
  with_reducible rfl
 rotate_left
 ·
  simp only [pA]
  rfl
 refine take_ (i := 1) (N := some 29) (v := ?_) (a' := ?_) #[Y, Y, Z, Z, Z, Y, Z, Z, Z, Z, Z, Z] rfl rfl (take_ofW HT_.out HW_.out (by kernel_rfl)) (fun _ _ _ h => h) (Or.inl ⟨by rfl, ?_⟩) hHeld ?_ ?_
 rotate_left
 ·
  rintro w' ⟨s0, s1, s2, s3, s4, s5, s6⟩
  go_simp
  with_reducible rfl
 rotate_left
 ·
  simp only [pA]
  rfl
 refine take_ (i := 3) (N := some 31) (v := ?_) (a' := ?_) #[Y, Y, Z, Y, Z, Y, Z, Z, Z, Z, Z, Z] rfl rfl (take_ofW HT_.out HW_.out (by kernel_rfl)) (fun _ _ _ h => h) (Or.inl ⟨by rfl, ?_⟩) hHeld ?_ ?_
 rotate_left
 ·
  rintro w' ⟨s0, s1, s2, s3, s4, s5, s6⟩
  go_simp
  with_reducible rfl
 rotate_left
 ·
  simp only [pA]
  rfl
 refine one_ (i := 2) (N := some 30) #[Y, Y, Y, Y, Z, Y, Z, Z, Z, Z, Z, Z] rfl rfl (one_of HT_.out (by kernel_rfl)) (by decide) (fun K hK => ?_)
 refine goes_ Try.func12 (by kernel_rfl) rfl #[.agg #[.int .i64 a1_0, .int .i64 a1_1, .int .i64 a1_2, .int .i64 a1_3]] (by rfl) rfl rfl hA ?_
 with_reducible refine (laws_toMatrix.calls a1_0 a1_1 a1_2 a1_3 t667 t668 t669 t670 _ A8.out).mono ?_
 rintro e w19 ⟨rfl, hb⟩
 refine ⟨_, rfl, ?_⟩
 replace HO665 := Aside0.mk (Kd.R_below (rA HO665) hb)
 replace BK654 := kB BK654 hb
 replace BK655 := kB BK655 hb
 replace HB := lB hb
 (try clear hb)
 (try clear hb2)
 (try clear hk)
 (try clear hi)
 refine hK.out _ _ ⟨cA BK654 0, cA BK654 1, cA BK654 2, cA BK654 3, cA BK655 0, cA BK655 1, cA BK655 2⟩ (fun hHeld => ?_)
 clear hK K
 refine norm_ (a' := ?_) ?_ ?_
 rotate_left
 ·
  show Act.put _ (some 30) _ = _
  simp only [pA]
  rfl
 refine one_ (i := 4) (N := some 32) #[Y, Y, Y, Y, Y, Y, Z, Z, Z, Z, Z, Z] rfl rfl (one_of HT_.out (by kernel_rfl)) (by decide) (fun K hK => ?_)
 refine goes_ Try.func20 (by kernel_rfl) rfl #[.agg #[.int .i64 a2_0, .int .i64 a2_1, .int .i64 a2_2]] (by rfl) rfl rfl hA ?_
 with_reducible refine (laws_toBall.calls a2_0 a2_1 a2_2 t671 t672 t673 _ A9.out).mono ?_
 rintro e w20 ⟨rfl, hb⟩
 refine ⟨_, rfl, ?_⟩
 replace HO665 := Aside0.mk (Kd.R_below (rA HO665) hb)
 replace BK654 := kB BK654 hb
 replace BK655 := kB BK655 hb
 replace HB := lB hb
 (try clear hb)
 (try clear hb2)
 (try clear hk)
 (try clear hi)
 refine hK.out _ _ ⟨cA BK654 0, cA BK654 1, cA BK654 2, cA BK654 3, cA BK655 0, cA BK655 1, cA BK655 2⟩ (fun hHeld => ?_)
 clear hK K
 refine norm_ (a' := ?_) ?_ ?_
 rotate_left
 ·
  show Act.put _ (some 32) _ = _
  simp only [pA]
  rfl
 refine one_ (i := 6) (N := some 34) #[Y, Y, Y, Y, Y, Y, Y, Z, Z, Z, Z, Z] rfl rfl (one_of HT_.out (by kernel_rfl)) (by decide) (fun K hK => ?_)
 refine goes_ Try.func26 (by kernel_rfl) rfl #[.int .i64 a0, .agg #[.int .i64 t667, .int .i64 t668, .int .i64 t669, .int .i64 t670], .agg #[.int .i64 t671, .int .i64 t672, .int .i64 t673], .int .i64 a3] (by rfl) rfl rfl hA ?_
 with_reducible refine (impl_AxisBalls.calls k a0 t667 t668 t669 t670 t671 t672 t673 a3 t674 t677 _ A10.out).mono ?_
 rintro e w21 ⟨v675, rfl, ho0, hb⟩
 refine ⟨_, rfl, ?_⟩
 have HO676 := Aside0.mk (Kd.R_lower (Kd.R_new' ho0 (Kd.R_lt (rA HO665))) (below_size blA))
 replace HO665 := Aside0.mk (Kd.R_elder' (rA HO665) (Kd.R_base ho0) hb)
 replace BK654 := kB BK654 hb
 replace BK655 := kB BK655 hb
 replace HB := lB hb
 (try clear hb)
 (try clear hb2)
 (try clear hk)
 (try clear hi)
 (try clear ho0)
 refine hK.out _ _ ⟨cA BK654 0, cA BK654 1, cA BK654 2, cA BK654 3, cA BK655 0, cA BK655 1, cA BK655 2⟩ (fun hHeld => ?_)
 clear hK K
 refine norm_ (a' := ?_) ?_ ?_
 rotate_left
 ·
  show Act.put _ (some 34) _ = _
  simp only [pA]
  rfl
 refine pure_ (i := 7) (N := some 27) (v := ?_) (a' := ?_) #[Y, Y, Y, Y, Y, Y, Y, Y, Z, Z, Z, Z] rfl rfl (any_of HT_.out (by kernel_rfl)) (fun _ _ _ h => h) (Or.inl ⟨by rfl, ?_⟩) ?_ ?_
 rotate_left
 ·
  intro w'
  go_simp
  with_reducible rfl
 rotate_left
 ·
  simp only [pA]
  rfl
 refine pure_ (i := 8) (N := some 35) (v := ?_) (a' := ?_) #[Y, Y, Y, Y, Y, Y, Y, Y, Y, Z, Z, Z] rfl rfl (any_of HT_.out (by kernel_rfl)) (fun _ _ _ h => h) (Or.inl ⟨by rfl, ?_⟩) ?_ ?_
 rotate_left
 ·
  intro w'
  go_simp
  with_reducible rfl
 rotate_left
 ·
  simp only [pA]
  rfl
 refine pure_ (i := 9) (N := some 36) (v := ?_) (a' := ?_) #[Y, Y, Y, Y, Y, Y, Y, Y, Y, Y, Z, Z] rfl rfl (any_of HT_.out (by kernel_rfl)) (fun _ _ _ h => h) (Or.inl ⟨by rfl, ?_⟩) ?_ ?_
 rotate_left
 ·
  intro w'
  go_simp
  with_reducible rfl
 rotate_left
 ·
  simp only [pA]
  rfl
 refine pure_ (i := 10) (N := some 11) (v := ?_) (a' := ?_) #[Y, Y, Y, Y, Y, Y, Y, Y, Y, Y, Y, Z] rfl rfl (any_of HT_.out (by kernel_rfl)) (fun _ _ _ h => h) (Or.inl ⟨by rfl, ?_⟩) ?_ ?_
 rotate_left
 ·
  intro w'
  go_simp
  with_reducible rfl
 rotate_left
 ·
  simp only [pA]
  rfl
 refine pure_ (i := 11) (N := some 12) (v := ?_) (a' := ?_) #[Y, Y, Y, Y, Y, Y, Y, Y, Y, Y, Y, Y] rfl rfl (any_of HT_.out (by kernel_rfl)) (fun _ _ _ h => h) (Or.inl ⟨by rfl, ?_⟩) ?_ ?_
 rotate_left
 ·
  intro w'
  go_simp
  with_reducible rfl
 rotate_left
 ·
  simp only [pA]
  rfl
 refine done_ (done_of HT_.out (by kernel_rfl)) ?_
 go_upto_region 3 with (fail)
 go_cut [45] (fun v45 wc => ∃ (kq : Nat) (x45_10 : Bool), v45 = .bool x45_10 ∧ Aside0 (laws_FnExactAxisBalls.j0 kq a0 a3 t663 t666 t674 x45_10 a1_0 a1_1 a1_2 a1_3 a2_0 a2_1 a2_2 = some r) ∧ Aside0 (kq ≤ k) ∧ Aside0 (Kd.R k39 39 wc w.heap.size (fun k_ => some k_ ≠ (v675 : Value).ownBlock) v664 t663) ∧ Aside0 (Kd.R k39 39 wc w.heap.size (fun k_ => some k_ ≠ (v664 : Value).ownBlock) v675 t674) ∧ Aside0 (wc.heap[gb654]? = some (.cells #[.int .i64 a1_0, .int .i64 a1_1, .int .i64 a1_2, .int .i64 a1_3] 23 (0, 0))) ∧ Aside0 (wc.heap[gb655]? = some (.cells #[.int .i64 a2_0, .int .i64 a2_1, .int .i64 a2_2] 35 (0, 0))) ∧ Aside0 (Below w.heap.size w wc))
 case first =>
  have H := HC11.out
  clear HC11
  replace H := bS H
  obtain ⟨t678, A22, H⟩ := H
  try dsimp only at H
  by_cases c23 : t678 = true
  ·
   subst c23
   rw [if_pos rfl] at H
   try dsimp only at H
   have H' := Aside0.mk H
   clear H
   obtain ⟨Ao24, co24, eo24⟩ := Kd.R_slice HO676.out
   subst eo24
   obtain ⟨Ao25, co25, eo25⟩ := Kd.R_slice HO665.out
   subst eo25
   go_wp2_with (first | ((with_reducible refine gate_callee (f := 22) rfl ?_); refine goesL_ (some 39) rfl rfl Try.func22 (by kernel_rfl) rfl #[.slice Ao24 t674.length co24, .slice Ao25 t663.length co25] rfl hA ?_; (with_reducible refine (laws_eqBallS.calls k _ _ t674 _ _ t663 true _ ?side1 ?side2 ?side3 ?side4 A22.out).mono ?_); (case side1 => repeat (first | exact (Kd.R_reads' HO676.out).2.2 | (with_reducible refine Kd.C_alloc ?_ _) | (with_reducible refine Kd.C_drewN ?_ _) | (with_reducible refine Kd.C_drew ?_))); (case side2 => exact (Kd.R_reads' HO676.out).2.1); (case side3 => repeat (first | exact (Kd.R_reads' HO665.out).2.2 | (with_reducible refine Kd.C_alloc ?_ _) | (with_reducible refine Kd.C_drewN ?_ _) | (with_reducible refine Kd.C_drew ?_))); (case side4 => exact (Kd.R_reads' HO665.out).2.1); rintro e w26 ⟨rfl, hb⟩; refine ⟨_, rfl, ?_⟩; have n0_ := Aside0.mk (Kd.R_below (rA HO665) hb); have n1_ := Aside0.mk (Kd.R_below (rA HO676) hb); have n2_ := kB BK654 hb; have n3_ := kB BK655 hb; have n4_ := lB hb; clear HO665; clear HO676; clear BK654; clear BK655; clear HB; have HO665 := n0_; have HO676 := n1_; have BK654 := n2_; have BK655 := n3_; have HB := n4_; clear n0_ n1_ n2_ n3_ n4_; (try clear hb); (try clear hb2); (try clear hk); (try clear hi)))
   go_meet
   case rel => exact ⟨_, ((t677 != t666)), hB, H', ⟨by first | omega | exact Nat.le_refl _⟩, ⟨by (with_reducible repeat (first | apply Kd.R_alloc | apply Kd.R_drewN | apply Kd.R_drew)); exact Kd.R_mono HO665.out (fun _ hk => hk.2)⟩, ⟨by (with_reducible repeat (first | apply Kd.R_alloc | apply Kd.R_drewN | apply Kd.R_drew)); exact Kd.R_mono HO676.out (fun _ hk => hk.2)⟩, ⟨bkA BK654⟩, ⟨bkA BK655⟩, ⟨blA⟩⟩
  ·
   replace c23 := Bool.eq_false_iff.mpr c23
   subst c23
   rw [if_neg (show ¬ (false = true) by decide)] at H
   try dsimp only at H
   have H' := Aside0.mk H
   clear H
   obtain ⟨Ao27, co27, eo27⟩ := Kd.R_slice HO676.out
   subst eo27
   obtain ⟨Ao28, co28, eo28⟩ := Kd.R_slice HO665.out
   subst eo28
   go_wp2_with (first | ((with_reducible refine gate_callee (f := 22) rfl ?_); refine goesL_ (some 39) rfl rfl Try.func22 (by kernel_rfl) rfl #[.slice Ao27 t674.length co27, .slice Ao28 t663.length co28] rfl hA ?_; (with_reducible refine (laws_eqBallS.calls k _ _ t674 _ _ t663 false _ ?side1 ?side2 ?side3 ?side4 A22.out).mono ?_); (case side1 => repeat (first | exact (Kd.R_reads' HO676.out).2.2 | (with_reducible refine Kd.C_alloc ?_ _) | (with_reducible refine Kd.C_drewN ?_ _) | (with_reducible refine Kd.C_drew ?_))); (case side2 => exact (Kd.R_reads' HO676.out).2.1); (case side3 => repeat (first | exact (Kd.R_reads' HO665.out).2.2 | (with_reducible refine Kd.C_alloc ?_ _) | (with_reducible refine Kd.C_drewN ?_ _) | (with_reducible refine Kd.C_drew ?_))); (case side4 => exact (Kd.R_reads' HO665.out).2.1); rintro e w29 ⟨rfl, hb⟩; refine ⟨_, rfl, ?_⟩; have n0_ := Aside0.mk (Kd.R_below (rA HO665) hb); have n1_ := Aside0.mk (Kd.R_below (rA HO676) hb); have n2_ := kB BK654 hb; have n3_ := kB BK655 hb; have n4_ := lB hb; clear HO665; clear HO676; clear BK654; clear BK655; clear HB; have HO665 := n0_; have HO676 := n1_; have BK654 := n2_; have BK655 := n3_; have HB := n4_; clear n0_ n1_ n2_ n3_ n4_; (try clear hb); (try clear hb2); (try clear hk); (try clear hi)))
   go_meet
   case rel => exact ⟨_, (true), hB, H', ⟨by first | omega | exact Nat.le_refl _⟩, ⟨by (with_reducible repeat (first | apply Kd.R_alloc | apply Kd.R_drewN | apply Kd.R_drew)); exact Kd.R_mono HO665.out (fun _ hk => hk.2)⟩, ⟨by (with_reducible repeat (first | apply Kd.R_alloc | apply Kd.R_drewN | apply Kd.R_drew)); exact Kd.R_mono HO676.out (fun _ hk => hk.2)⟩, ⟨bkA BK654⟩, ⟨bkA BK655⟩, ⟨blA⟩⟩
 case rest =>
  clear HC11
  try clear c23
  obtain ⟨kq, x45_10, rfl, HA, HJ10, HO_9, HO_11, BK654, BK655, HB⟩ := hcut
  cases kq with
  | zero => exact absurd HA.out (by simp [laws_FnExactAxisBalls.j0])
  | succ kj10 =>
   have H := HA.out
   clear HA
   simp only [laws_FnExactAxisBalls.j0] at H
   by_cases c30 : x45_10 = true
   ·
    subst c30
    rw [if_pos rfl] at H
    try dsimp only at H
    exact absurd H (by simp)
   ·
    replace c30 := Bool.eq_false_iff.mpr c30
    subst c30
    rw [if_neg (show ¬ (false = true) by decide)] at H
    try dsimp only at H
    replace H := bS H
    obtain ⟨⟨t679, t680⟩, A31, H⟩ := H
    try dsimp only at H
    replace H := bS H
    obtain ⟨t681, A32, H⟩ := H
    try dsimp only at H
    by_cases c33 : t681 < 0
    ·
     rw [if_pos c33] at H
     exact absurd H (by simp)
    ·
     rw [if_neg c33] at H
     have c33b0 := decide_eq_false c33
     clear c33
     by_cases c34 : t681 = t679
     ·
      rw [if_pos c34] at H
      have c34b0 : (t681 == t679) = true := beq_iff_eq.mpr c34
      have c34b1 : (t681 != t679) = false := bne_eq_false_iff_eq.mpr c34
      clear c34
      replace H := bS H
      obtain ⟨⟨t682, t683, t684, t685⟩, A35, H⟩ := H
      try dsimp only at H
      replace H := bS H
      obtain ⟨⟨t686, t687, t688⟩, A36, H⟩ := H
      try dsimp only at H
      replace H := bS H
      obtain ⟨⟨t689, t692⟩, A37, H⟩ := H
      try dsimp only at H
      have HC38 := Aside0.mk H
      clear H
      obtain ⟨Ao39, co39, eo39⟩ := Kd.R_slice HO_11.out
      subst eo39
      try go_wp2_with (first | ((with_reducible refine gate_callee (f := 23) rfl ?_); refine goesL_ (some 48) rfl rfl Try.func23 (by kernel_rfl) rfl #[.slice Ao39 t674.length co39, .int .i64 1] rfl hA ?_; (with_reducible refine (laws_markBallS.calls kj10 (fun k_ => some k_ = (.slice Ao39 t674.length co39 : Value).ownBlock) (.slice Ao39 t674.length co39) t674 1 t679 t680 w _ ?side1 ?side2 A31.out).mono ?_); (case side1 => repeat (first | (with_reducible first | exact HB.out | apply below_alloc | apply pw_below_drewN | apply below_drew1 | refine below_set ?_ GE654.out | refine below_set ?_ GE655.out) | exact HB.out)); (case side2 => exact Kd.R_tight rfl HO_11.out); rintro e w40 ⟨rfl, hy0, hb, hkp⟩; refine ⟨_, rfl, ?_⟩; have n0_ := Aside0.mk (Kd.R_mono (ok' := fun k_ => some k_ ≠ (.slice Ao39 t674.length co39 : Value).ownBlock) (Kd.R_keptB (HO_9.out) hkp (fun k_ hk_ hs_ => (hk_) hs_)) (fun k_ hk_ => hk_.1)); have n1_ := Aside0.mk (Kd.R_reok rfl hy0 (fun k_ e_ => HO_11.out.1 k_ e_)); have n2_ := Aside0.mk (blk_kept (bkA BK654) hkp (fun hs_ => (fun e_ => (Kd.R_ne HO_11.out BK654.out (by decide)) e_) hs_)); have n3_ := Aside0.mk (blk_kept (bkA BK655) hkp (fun hs_ => (fun e_ => (Kd.R_ne HO_11.out BK655.out (by decide)) e_) hs_)); have n4_ := Aside0.mk (hb); clear HO_9; clear HO_11; clear BK654; clear BK655; clear HB; have HO_9 := n0_; have HO_11 := n1_; have BK654 := n2_; have BK655 := n3_; have HB := n4_; clear n0_ n1_ n2_ n3_ n4_; (try clear hb); (try clear hkp); (try clear hy0)) | ((with_reducible refine gate_callee (f := 24) rfl ?_); refine goesL_ (some 51) rfl rfl Try.func24 (by kernel_rfl) rfl #[.slice Ao39 t680.length co39, .int .i64 1] rfl (by (try simp only [List.map_toArray, List.map_cons, List.map_nil]); first | done | (rw [show t680.length = t674.length from (Kd.R_reads' HO_11.out).1.symm] <;> rfl) | rfl | (simp only [List.length_drop, List.length_take]; rfl)) ?_; (with_reducible refine (laws_heldBallS.calls kj10 _ _ t680 1 t681 _ ?side1 ?side2 A32.out).mono ?_); (case side1 => repeat (first | exact (Kd.R_reads' HO_11.out).2.2 | (with_reducible refine Kd.C_alloc ?_ _) | (with_reducible refine Kd.C_drewN ?_ _) | (with_reducible refine Kd.C_drew ?_))); (case side2 => rw [show t680.length = t674.length from (Kd.R_reads' HO_11.out).1.symm]; exact (Kd.R_reads' HO_11.out).2.1); rintro e w' ⟨rfl, ⟨nd, rfl⟩⟩; refine ⟨_, rfl, ?_⟩))
      (try (rw [drewN_self w40]; generalize hq_ : World.drewN w40 _ = w40; have n0_ : Aside0 (Kd.R k39 39 w40 w.heap.size (fun k_ => some k_ ≠ (v664 : Value).ownBlock) (.slice Ao39 t674.length co39) t680) := ⟨by rw [← hq_]; exact (rA HO_11)⟩; have n1_ : Aside0 (Kd.R k39 39 w40 w.heap.size (fun k_ => some k_ ≠ (.slice Ao39 t674.length co39 : Value).ownBlock) v664 t663) := ⟨by rw [← hq_]; exact (rA HO_9)⟩; have n2_ : Aside0 (w40.heap[gb654]? = some (.cells #[.int .i64 a1_0, .int .i64 a1_1, .int .i64 a1_2, .int .i64 a1_3] 23 (0, 0))) := ⟨by rw [← hq_]; exact (bkA BK654)⟩; have n3_ : Aside0 (w40.heap[gb655]? = some (.cells #[.int .i64 a2_0, .int .i64 a2_1, .int .i64 a2_2] 35 (0, 0))) := ⟨by rw [← hq_]; exact (bkA BK655)⟩; have n4_ : Aside0 (Below w.heap.size w w40) := ⟨by rw [← hq_]; exact blA⟩; clear HO_11 HO_9 BK654 BK655 HB hq_; have HO_11 := n0_; have HO_9 := n1_; have BK654 := n2_; have BK655 := n3_; have HB := n4_; clear n0_ n1_ n2_ n3_ n4_))
      have n0_ := Aside0.mk (Kd.R_drew HO_9.out)
      have n1_ := Aside0.mk (Kd.R_drew HO_11.out)
      have n2_ := Aside0.mk (blk_drew BK654.out)
      have n3_ := Aside0.mk (blk_drew BK655.out)
      have n4_ := Aside0.mk (below_drew1 HB.out)
      clear HO_9
      clear HO_11
      clear BK654
      clear BK655
      clear HB
      have HO_9 := n0_
      have HO_11 := n1_
      have BK654 := n2_
      have BK655 := n3_
      have HB := n4_
      clear n0_ n1_ n2_ n3_ n4_
      refine start_ (n := 12) (S := fun w' => w'.cell? ⟨gb654, 0, none⟩ = some (.int .i64 a1_0) ∧ w'.cell? ⟨gb654, 1, none⟩ = some (.int .i64 a1_1) ∧ w'.cell? ⟨gb654, 2, none⟩ = some (.int .i64 a1_2) ∧ w'.cell? ⟨gb654, 3, none⟩ = some (.int .i64 a1_3) ∧ w'.cell? ⟨gb655, 0, none⟩ = some (.int .i64 a2_0) ∧ w'.cell? ⟨gb655, 1, none⟩ = some (.int .i64 a2_1) ∧ w'.cell? ⟨gb655, 2, none⟩ = some (.int .i64 a2_2)) (ds := []) #[Z, Z, Z, Z, Z, Z, Z, Z, Z, Z, Z, Z] (by kernel_rfl) rfl rfl ⟨cA BK654 0, cA BK654 1, cA BK654 2, cA BK654 3, cA BK655 0, cA BK655 1, cA BK655 2⟩ (fun hHeld => ?_); refine with_tabW laws_FnExactAxisBalls.tab13 laws_FnExactAxisBalls.bits13 (fun HT_ HW_ => ?_)
      generalize w40.drew = w41 at HO_9 HO_11 BK654 BK655 HB hHeld ⊢
      refine pure_ (i := 0) (N := some 58) (v := ?_) (a' := ?_) #[Y, Z, Z, Z, Z, Z, Z, Z, Z, Z, Z, Z] rfl rfl (any_of HT_.out (by kernel_rfl)) (fun _ _ _ h => h) (Or.inl ⟨by rfl, ?_⟩) ?_ ?_
      rotate_left
      ·
       intro w'
       go_simp
       with_reducible rfl
      rotate_left
      ·
       simp only [pA]
       rfl
      refine pure_ (i := 5) (N := some 63) (v := ?_) (a' := ?_) #[Y, Z, Z, Z, Z, Y, Z, Z, Z, Z, Z, Z] rfl rfl (any_of HT_.out (by kernel_rfl)) (fun _ _ _ h => h) (Or.inl ⟨by rfl, ?_⟩) ?_ ?_
      rotate_left
      ·
       intro w'
       go_simp
       with_reducible rfl
      rotate_left
      ·
       simp only [pA]
       rfl
      refine take_ (i := 1) (N := some 59) (v := ?_) (a' := ?_) #[Y, Y, Z, Z, Z, Y, Z, Z, Z, Z, Z, Z] rfl rfl (take_ofW HT_.out HW_.out (by kernel_rfl)) (fun _ _ _ h => h) (Or.inl ⟨by rfl, ?_⟩) hHeld ?_ ?_
      rotate_left
      ·
       rintro w' ⟨s0, s1, s2, s3, s4, s5, s6⟩
       go_simp
       with_reducible rfl
      rotate_left
      ·
       simp only [pA]
       rfl
      refine take_ (i := 3) (N := some 61) (v := ?_) (a' := ?_) #[Y, Y, Z, Y, Z, Y, Z, Z, Z, Z, Z, Z] rfl rfl (take_ofW HT_.out HW_.out (by kernel_rfl)) (fun _ _ _ h => h) (Or.inl ⟨by rfl, ?_⟩) hHeld ?_ ?_
      rotate_left
      ·
       rintro w' ⟨s0, s1, s2, s3, s4, s5, s6⟩
       go_simp
       with_reducible rfl
      rotate_left
      ·
       simp only [pA]
       rfl
      refine one_ (i := 2) (N := some 60) #[Y, Y, Y, Y, Z, Y, Z, Z, Z, Z, Z, Z] rfl rfl (one_of HT_.out (by kernel_rfl)) (by decide) (fun K hK => ?_)
      refine goes_ Try.func12 (by kernel_rfl) rfl #[.agg #[.int .i64 a1_0, .int .i64 a1_1, .int .i64 a1_2, .int .i64 a1_3]] (by rfl) rfl rfl hA ?_
      with_reducible refine (laws_toMatrix.calls a1_0 a1_1 a1_2 a1_3 t682 t683 t684 t685 _ A35.out).mono ?_
      rintro e w42 ⟨rfl, hb⟩
      refine ⟨_, rfl, ?_⟩
      replace HO_9 := Aside0.mk (Kd.R_below (rA HO_9) hb)
      replace HO_11 := Aside0.mk (Kd.R_below (rA HO_11) hb)
      replace BK654 := kB BK654 hb
      replace BK655 := kB BK655 hb
      replace HB := lB hb
      (try clear hb)
      (try clear hb2)
      (try clear hk)
      (try clear hi)
      refine hK.out _ _ ⟨cA BK654 0, cA BK654 1, cA BK654 2, cA BK654 3, cA BK655 0, cA BK655 1, cA BK655 2⟩ (fun hHeld => ?_)
      clear hK K
      refine norm_ (a' := ?_) ?_ ?_
      rotate_left
      ·
       show Act.put _ (some 60) _ = _
       simp only [pA]
       rfl
      refine one_ (i := 4) (N := some 62) #[Y, Y, Y, Y, Y, Y, Z, Z, Z, Z, Z, Z] rfl rfl (one_of HT_.out (by kernel_rfl)) (by decide) (fun K hK => ?_)
      refine goes_ Try.func20 (by kernel_rfl) rfl #[.agg #[.int .i64 a2_0, .int .i64 a2_1, .int .i64 a2_2]] (by rfl) rfl rfl hA ?_
      with_reducible refine (laws_toBall.calls a2_0 a2_1 a2_2 t686 t687 t688 _ A36.out).mono ?_
      rintro e w43 ⟨rfl, hb⟩
      refine ⟨_, rfl, ?_⟩
      replace HO_9 := Aside0.mk (Kd.R_below (rA HO_9) hb)
      replace HO_11 := Aside0.mk (Kd.R_below (rA HO_11) hb)
      replace BK654 := kB BK654 hb
      replace BK655 := kB BK655 hb
      replace HB := lB hb
      (try clear hb)
      (try clear hb2)
      (try clear hk)
      (try clear hi)
      refine hK.out _ _ ⟨cA BK654 0, cA BK654 1, cA BK654 2, cA BK654 3, cA BK655 0, cA BK655 1, cA BK655 2⟩ (fun hHeld => ?_)
      clear hK K
      refine norm_ (a' := ?_) ?_ ?_
      rotate_left
      ·
       show Act.put _ (some 62) _ = _
       simp only [pA]
       rfl
      refine one_ (i := 6) (N := some 64) #[Y, Y, Y, Y, Y, Y, Y, Z, Z, Z, Z, Z] rfl rfl (one_of HT_.out (by kernel_rfl)) (by decide) (fun K hK => ?_)
      refine goes_ Try.func26 (by kernel_rfl) rfl #[.int .i64 a0, .agg #[.int .i64 t682, .int .i64 t683, .int .i64 t684, .int .i64 t685], .agg #[.int .i64 t686, .int .i64 t687, .int .i64 t688], .int .i64 a3] (by rfl) rfl rfl hA ?_
      with_reducible refine (impl_AxisBalls.calls kj10 a0 t682 t683 t684 t685 t686 t687 t688 a3 t689 t692 _ A37.out).mono ?_
      rintro e w44 ⟨v690, rfl, ho0, hb⟩
      refine ⟨_, rfl, ?_⟩
      have HO691 := Aside0.mk (Kd.R_lower (Kd.R_new' (Kd.R_new' ho0 (Kd.R_lt (rA HO_9))) (Kd.R_lt (rA HO_11))) (below_size blA))
      replace HO_9 := Aside0.mk (Kd.R_elder' (rA HO_9) (Kd.R_base ho0) hb)
      replace HO_11 := Aside0.mk (Kd.R_elder' (rA HO_11) (Kd.R_base ho0) hb)
      replace BK654 := kB BK654 hb
      replace BK655 := kB BK655 hb
      replace HB := lB hb
      (try clear hb)
      (try clear hb2)
      (try clear hk)
      (try clear hi)
      (try clear ho0)
      refine hK.out _ _ ⟨cA BK654 0, cA BK654 1, cA BK654 2, cA BK654 3, cA BK655 0, cA BK655 1, cA BK655 2⟩ (fun hHeld => ?_)
      clear hK K
      refine norm_ (a' := ?_) ?_ ?_
      rotate_left
      ·
       show Act.put _ (some 64) _ = _
       simp only [pA]
       rfl
      refine pure_ (i := 7) (N := some 57) (v := ?_) (a' := ?_) #[Y, Y, Y, Y, Y, Y, Y, Y, Z, Z, Z, Z] rfl rfl (any_of HT_.out (by kernel_rfl)) (fun _ _ _ h => h) (Or.inl ⟨by rfl, ?_⟩) ?_ ?_
      rotate_left
      ·
       intro w'
       go_simp
       with_reducible rfl
      rotate_left
      ·
       simp only [pA]
       rfl
      refine pure_ (i := 8) (N := some 65) (v := ?_) (a' := ?_) #[Y, Y, Y, Y, Y, Y, Y, Y, Y, Z, Z, Z] rfl rfl (any_of HT_.out (by kernel_rfl)) (fun _ _ _ h => h) (Or.inl ⟨by rfl, ?_⟩) ?_ ?_
      rotate_left
      ·
       intro w'
       go_simp
       with_reducible rfl
      rotate_left
      ·
       simp only [pA]
       rfl
      refine pure_ (i := 9) (N := some 66) (v := ?_) (a' := ?_) #[Y, Y, Y, Y, Y, Y, Y, Y, Y, Y, Z, Z] rfl rfl (any_of HT_.out (by kernel_rfl)) (fun _ _ _ h => h) (Or.inl ⟨by rfl, ?_⟩) ?_ ?_
      rotate_left
      ·
       intro w'
       go_simp
       with_reducible rfl
      rotate_left
      ·
       simp only [pA]
       rfl
      refine pure_ (i := 10) (N := some 15) (v := ?_) (a' := ?_) #[Y, Y, Y, Y, Y, Y, Y, Y, Y, Y, Y, Z] rfl rfl (any_of HT_.out (by kernel_rfl)) (fun _ _ _ h => h) (Or.inl ⟨by rfl, ?_⟩) ?_ ?_
      rotate_left
      ·
       intro w'
       go_simp
       with_reducible rfl
      rotate_left
      ·
       simp only [pA]
       rfl
      refine pure_ (i := 11) (N := some 16) (v := ?_) (a' := ?_) #[Y, Y, Y, Y, Y, Y, Y, Y, Y, Y, Y, Y] rfl rfl (any_of HT_.out (by kernel_rfl)) (fun _ _ _ h => h) (Or.inl ⟨by rfl, ?_⟩) ?_ ?_
      rotate_left
      ·
       intro w'
       go_simp
       with_reducible rfl
      rotate_left
      ·
       simp only [pA]
       rfl
      refine done_ (done_of HT_.out (by kernel_rfl)) ?_
      go_upto_region 14 with (fail)
      go_cut [75] (fun v75 wc => ∃ (kq : Nat) (x75_37 : Bool), v75 = .bool x75_37 ∧ Aside0 (laws_FnExactAxisBalls.j1 kq t680 t679 x75_37 = some r) ∧ Aside0 (kq ≤ kj10) ∧ Aside0 (Kd.R k39 39 wc w.heap.size (fun _ => True) (.slice Ao39 t674.length co39) t680) ∧ Aside0 (wc.heap[gb654]? = some (.cells #[.int .i64 a1_0, .int .i64 a1_1, .int .i64 a1_2, .int .i64 a1_3] 23 (0, 0))) ∧ Aside0 (wc.heap[gb655]? = some (.cells #[.int .i64 a2_0, .int .i64 a2_1, .int .i64 a2_2] 35 (0, 0))) ∧ Aside0 (Below w.heap.size w wc))
      case first =>
       have H := HC38.out
       clear HC38
       replace H := bS H
       obtain ⟨t693, A45, H⟩ := H
       try dsimp only at H
       by_cases c46 : t693 = true
       ·
        subst c46
        rw [if_pos rfl] at H
        try dsimp only at H
        have H' := Aside0.mk H
        clear H
        obtain ⟨Ao47, co47, eo47⟩ := Kd.R_slice HO691.out
        subst eo47
        obtain ⟨Ao48, co48, eo48⟩ := Kd.R_slice HO_9.out
        subst eo48
        go_wp2_with (first | ((with_reducible refine gate_callee (f := 22) rfl ?_); refine goesL_ (some 69) rfl rfl Try.func22 (by kernel_rfl) rfl #[.slice Ao47 t689.length co47, .slice Ao48 t663.length co48] rfl hA ?_; (with_reducible refine (laws_eqBallS.calls kj10 _ _ t689 _ _ t663 true _ ?side1 ?side2 ?side3 ?side4 A45.out).mono ?_); (case side1 => repeat (first | exact (Kd.R_reads' HO691.out).2.2 | (with_reducible refine Kd.C_alloc ?_ _) | (with_reducible refine Kd.C_drewN ?_ _) | (with_reducible refine Kd.C_drew ?_))); (case side2 => exact (Kd.R_reads' HO691.out).2.1); (case side3 => repeat (first | exact (Kd.R_reads' HO_9.out).2.2 | (with_reducible refine Kd.C_alloc ?_ _) | (with_reducible refine Kd.C_drewN ?_ _) | (with_reducible refine Kd.C_drew ?_))); (case side4 => exact (Kd.R_reads' HO_9.out).2.1); rintro e w49 ⟨rfl, hb⟩; refine ⟨_, rfl, ?_⟩; have n0_ := Aside0.mk (Kd.R_below (rA HO_9) hb); have n1_ := Aside0.mk (Kd.R_below (rA HO_11) hb); have n2_ := Aside0.mk (Kd.R_below (rA HO691) hb); have n3_ := kB BK654 hb; have n4_ := kB BK655 hb; have n5_ := lB hb; clear HO_9; clear HO_11; clear HO691; clear BK654; clear BK655; clear HB; have HO_9 := n0_; have HO_11 := n1_; have HO691 := n2_; have BK654 := n3_; have BK655 := n4_; have HB := n5_; clear n0_ n1_ n2_ n3_ n4_ n5_; (try clear hb); (try clear hb2); (try clear hk); (try clear hi)))
        go_meet
        case rel => exact ⟨_, ((t692 != t666)), hB, H', ⟨by have := HJ10.out; first | omega | exact Nat.le_refl _⟩, ⟨by (with_reducible repeat (first | apply Kd.R_alloc | apply Kd.R_drewN | apply Kd.R_drew)); exact Kd.R_mono HO_11.out (fun _ hk => trivial)⟩, ⟨bkA BK654⟩, ⟨bkA BK655⟩, ⟨blA⟩⟩
       ·
        replace c46 := Bool.eq_false_iff.mpr c46
        subst c46
        rw [if_neg (show ¬ (false = true) by decide)] at H
        try dsimp only at H
        have H' := Aside0.mk H
        clear H
        obtain ⟨Ao50, co50, eo50⟩ := Kd.R_slice HO691.out
        subst eo50
        obtain ⟨Ao51, co51, eo51⟩ := Kd.R_slice HO_9.out
        subst eo51
        go_wp2_with (first | ((with_reducible refine gate_callee (f := 22) rfl ?_); refine goesL_ (some 69) rfl rfl Try.func22 (by kernel_rfl) rfl #[.slice Ao50 t689.length co50, .slice Ao51 t663.length co51] rfl hA ?_; (with_reducible refine (laws_eqBallS.calls kj10 _ _ t689 _ _ t663 false _ ?side1 ?side2 ?side3 ?side4 A45.out).mono ?_); (case side1 => repeat (first | exact (Kd.R_reads' HO691.out).2.2 | (with_reducible refine Kd.C_alloc ?_ _) | (with_reducible refine Kd.C_drewN ?_ _) | (with_reducible refine Kd.C_drew ?_))); (case side2 => exact (Kd.R_reads' HO691.out).2.1); (case side3 => repeat (first | exact (Kd.R_reads' HO_9.out).2.2 | (with_reducible refine Kd.C_alloc ?_ _) | (with_reducible refine Kd.C_drewN ?_ _) | (with_reducible refine Kd.C_drew ?_))); (case side4 => exact (Kd.R_reads' HO_9.out).2.1); rintro e w52 ⟨rfl, hb⟩; refine ⟨_, rfl, ?_⟩; have n0_ := Aside0.mk (Kd.R_below (rA HO_9) hb); have n1_ := Aside0.mk (Kd.R_below (rA HO_11) hb); have n2_ := Aside0.mk (Kd.R_below (rA HO691) hb); have n3_ := kB BK654 hb; have n4_ := kB BK655 hb; have n5_ := lB hb; clear HO_9; clear HO_11; clear HO691; clear BK654; clear BK655; clear HB; have HO_9 := n0_; have HO_11 := n1_; have HO691 := n2_; have BK654 := n3_; have BK655 := n4_; have HB := n5_; clear n0_ n1_ n2_ n3_ n4_ n5_; (try clear hb); (try clear hb2); (try clear hk); (try clear hi)))
        go_meet
        case rel => exact ⟨_, (true), hB, H', ⟨by have := HJ10.out; first | omega | exact Nat.le_refl _⟩, ⟨by (with_reducible repeat (first | apply Kd.R_alloc | apply Kd.R_drewN | apply Kd.R_drew)); exact Kd.R_mono HO_11.out (fun _ hk => trivial)⟩, ⟨bkA BK654⟩, ⟨bkA BK655⟩, ⟨blA⟩⟩
      case rest =>
       clear HC38
       try clear c23
       try clear c30
       try clear c33
       try clear c33b0
       try clear c34
       try clear c34b0
       try clear c34b1
       try clear c46
       obtain ⟨kq, x75_37, rfl, HA, HJ37, HO_11, BK654, BK655, HB⟩ := hcut
       have hl11_37 := (Kd.R_reads' HO_11.out).1
       rw [hl11_37] at HO_11
       (try simp only [hl11_37])
       (try simp only [hl11_37] at BK654)
       (try simp only [hl11_37] at BK655)
       cases kq with
       | zero => exact absurd HA.out (by simp [laws_FnExactAxisBalls.j1])
       | succ kj37 =>
        have H := HA.out
        clear HA
        simp only [laws_FnExactAxisBalls.j1] at H
        by_cases c53 : x75_37 = true
        ·
         subst c53
         rw [if_pos rfl] at H
         try dsimp only at H
         exact absurd H (by simp)
        ·
         replace c53 := Bool.eq_false_iff.mpr c53
         subst c53
         rw [if_neg (show ¬ (false = true) by decide)] at H
         try dsimp only at H
         replace H := bS H
         obtain ⟨t694, A54, H⟩ := H
         try dsimp only at H
         by_cases c55 : t694 < 0
         ·
          rw [if_pos c55] at H
          exact absurd H (by simp)
         ·
          rw [if_neg c55] at H
          have c55b0 := decide_eq_false c55
          clear c55
          by_cases c56 : t694 = t679
          ·
           rw [if_pos c56] at H
           have c56b0 : (t694 == t679) = true := beq_iff_eq.mpr c56
           have c56b1 : (t694 != t679) = false := bne_eq_false_iff_eq.mpr c56
           clear c56
           obtain rfl := Option.some.inj H
           go_wp2_with (first | ((with_reducible refine gate_callee (f := 24) rfl ?_); refine goesL_ (some 78) rfl rfl Try.func24 (by kernel_rfl) rfl #[.slice Ao39 t680.length co39, .int .i64 1] rfl hA ?_; (with_reducible refine (laws_heldBallS.calls kj37 _ _ t680 1 t694 _ ?side1 ?side2 A54.out).mono ?_); (case side1 => repeat (first | exact (Kd.R_reads' HO_11.out).2.2 | (with_reducible refine Kd.C_alloc ?_ _) | (with_reducible refine Kd.C_drewN ?_ _) | (with_reducible refine Kd.C_drew ?_))); (case side2 => exact (Kd.R_reads' HO_11.out).2.1); rintro e w' ⟨rfl, ⟨nd, rfl⟩⟩; refine ⟨_, rfl, ?_⟩))
           go_ret
           exact finA blA
          ·
           rw [if_neg c56] at H
           exact absurd H (by simp)
     ·
      rw [if_neg c34] at H
      exact absurd H (by simp)
end Go.Proofs.Ytccpccnnbacgjaa.PAll
