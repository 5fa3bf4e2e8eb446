-- turned for this claim out of the kit's print: the same functions, packed anew
import Derived.Test.YtmhajnfdbjnegaaQx
import Derived.Test.YtmhajnfdbjnegaaQimplIsMatrix
import Derived.Test.YtmhajnfdbjnegaaQimplMoveBall
import Derived.Test.YtmhajnfdbjnegaaQimplmark
import Derived.Test.YtmhajnfdbjnegaaQspecMoveBall
namespace Go.Proofs.Ytmhajnfdbjnegaa.PAll
open Go.RowKit Go.Proofs.YtmhajnfdbjnegaaW.PrintWords Go.Proofs.YtmhajnfdbjnegaaW.PrintLast Go.Proofs.YtmhajnfdbjnegaaW.PrintMore
attribute [local go_sem] Go.Proofs.Ytmhajnfdbjnegaa.Aux.setCell_drewN Go.Proofs.Ytmhajnfdbjnegaa.Aux.isSome_setCell max2_int min2_int max_two min_two max_three min_three max_four min_four   -- for this text's walks alone
set_option linter.unusedVariables false
set_option linter.unusedSimpArgs false
/-! ### laws_FnExactMoveBall: function 12 -/
def laws_FnExactMoveBall.f (k : Nat) (a0 : Int) (a1_0 : Int) (a1_1 : Int) (a1_2 : Int) (a1_3 : Int) (a2_0 : Int) (a2_1 : Int) (a2_2 : Int) : Option (Bool) := (laws_toMatrix.f a1_0 a1_1 a1_2 a1_3).bind fun bt702 => ((laws_toBall.f a2_0 a2_1 a2_2).bind fun bt706 => ((spec_MoveBall.f k a0 bt702.1 bt702.2.1 bt702.2.2.1 bt702.2.2.2 bt706.1 bt706.2.1 bt706.2.2).bind fun bt709 => ((laws_toMatrix.f a1_0 a1_1 a1_2 a1_3).bind fun bt714 => ((laws_toBall.f a2_0 a2_1 a2_2).bind fun bt718 => ((impl_MoveBall.f k a0 bt714.1 bt714.2.1 bt714.2.2.1 bt714.2.2.2 bt718.1 bt718.2.1 bt718.2.2).bind fun bt721 => ((laws_eqBall.f bt721.1 bt721.2.1 bt721.2.2.1 bt709.1 bt709.2.1 bt709.2.2.1).bind fun t726 => (if t726 = true then (if bt721.2.2.2 = bt709.2.2.2 then (some true) else (none)) else (none))))))))
theorem laws_FnExactMoveBall.mono : ∀ a0 a1 a2 a3 a4 a5 a6 a7 k, LeO (laws_FnExactMoveBall.f k a0 a1 a2 a3 a4 a5 a6 a7) (laws_FnExactMoveBall.f (k + 1) a0 a1 a2 a3 a4 a5 a6 a7) := by
  intro a0 a1 a2 a3 a4 a5 a6 a7 k
  unfold laws_FnExactMoveBall.f
  repeat' first
      | (with_reducible exact impl_MoveBall.mono _ _ _ _ _ _ _ _ _)
      | (with_reducible exact spec_MoveBall.mono _ _ _ _ _ _ _ _ _)
      | (with_reducible exact LeO.refl _)
      | (with_reducible exact LeO.none _)
      | (with_reducible refine LeO.ite ?_ ?_)
      | (with_reducible refine LeO.bind ?_ (fun _ => ?_))
      | exact impl_MoveBall.mono _ _ _ _ _ _ _ _ _
      | exact spec_MoveBall.mono _ _ _ _ _ _ _ _ _
      | exact LeO.none _
      | refine LeO.ite ?_ ?_
      | refine LeO.bind ?_ (fun _ => ?_)
def laws_FnExactMoveBall.T1 : Bool × List (List Nat × List Nat) := (true, [([], []), ([], []), ([1], [1]), ([], []), ([3, 2], [3]), ([0, 2, 4, 4], [0, 2, 4]), ([5], [5]), ([6], [6]), ([6], [6]), ([], []), ([9, 7, 5, 0, 1, 2, 3, 4, 5, 6, 7, 9], [7, 9]), ([8, 10, 0, 1, 2, 3, 4, 5, 6, 7, 8, 9, 10], [8])])
def laws_FnExactMoveBall.B1 : List Nat := [0, 0, 2, 0, 14, 31, 63, 127, 127, 0, 767, 2047]
theorem laws_FnExactMoveBall.tab1 : rtab .any (opsOf Try.f12 1) = laws_FnExactMoveBall.T1 := by kernel_rfl
theorem laws_FnExactMoveBall.bits1 : waitsOk laws_FnExactMoveBall.T1.2 laws_FnExactMoveBall.B1 = true := by kernel_rfl
def laws_FnExactMoveBall.T2 : Bool × List (List Nat × List Nat) := (true, [([], []), ([], []), ([1], [1]), ([], []), ([3, 2], [3]), ([0, 2, 4, 4], [0, 2, 4]), ([5], [5]), ([6], [6]), ([6], [6]), ([], []), ([9, 7, 5, 0, 1, 2, 3, 4, 5, 6, 7, 9], [7, 9]), ([8, 10, 0, 1, 2, 3, 4, 5, 6, 7, 8, 9, 10], [8])])
def laws_FnExactMoveBall.B2 : List Nat := [0, 0, 2, 0, 14, 31, 63, 127, 127, 0, 767, 2047]
theorem laws_FnExactMoveBall.tab2 : rtab .any (opsOf Try.f12 2) = laws_FnExactMoveBall.T2 := by kernel_rfl
theorem laws_FnExactMoveBall.bits2 : waitsOk laws_FnExactMoveBall.T2.2 laws_FnExactMoveBall.B2 = true := by kernel_rfl
set_option maxHeartbeats 8000000 in
set_option maxRecDepth 100000 in
theorem laws_FnExactMoveBall.calls (k : Nat) (a0 : Int) (a1_0 : Int) (a1_1 : Int) (a1_2 : Int) (a1_3 : Int) (a2_0 : Int) (a2_1 : Int) (a2_2 : Int) (r : Bool) (w : World) (h : laws_FnExactMoveBall.f k a0 a1_0 a1_1 a1_2 a1_3 a2_0 a2_1 a2_2 = some r) :
    Calls Try.prog 12 #[.int .i64 a0, .agg #[.int .i64 a1_0, .int .i64 a1_1, .int .i64 a1_2, .int .i64 a1_3], .agg #[.int .i64 a2_0, .int .i64 a2_1, .int .i64 a2_2]] w fun e w' => e = .returned (.bool r) ∧ Below w.heap.size w w' := by
  have hu23 := Try.underlying23
  have hu54 := Try.underlying54
  have hu55 := Try.underlying55
  have HB := Aside0.mk (Below.refl w.heap.size w)
  have H : ((laws_toMatrix.f a1_0 a1_1 a1_2 a1_3).bind fun bt702 => ((laws_toBall.f a2_0 a2_1 a2_2).bind fun bt706 => ((spec_MoveBall.f k a0 bt702.1 bt702.2.1 bt702.2.2.1 bt702.2.2.2 bt706.1 bt706.2.1 bt706.2.2).bind fun bt709 => ((laws_toMatrix.f a1_0 a1_1 a1_2 a1_3).bind fun bt714 => ((laws_toBall.f a2_0 a2_1 a2_2).bind fun bt718 => ((impl_MoveBall.f k a0 bt714.1 bt714.2.1 bt714.2.2.1 bt714.2.2.2 bt718.1 bt718.2.1 bt718.2.2).bind fun bt721 => ((laws_eqBall.f bt721.1 bt721.2.1 bt721.2.2.1 bt709.1 bt709.2.1 bt709.2.2.1).bind fun t726 => (if t726 = true then (if bt721.2.2.2 = bt709.2.2.2 then (some true) else (none)) else (none))))))))) = some r := h
  clear h
  replace H := Option.bind_eq_some_iff.mp H
  obtain ⟨⟨t702, t703, t704, t705⟩, A40, H⟩ := H
  replace H : ((laws_toBall.f a2_0 a2_1 a2_2).bind fun bt706 => ((spec_MoveBall.f k a0 t702 t703 t704 t705 bt706.1 bt706.2.1 bt706.2.2).bind fun bt709 => ((laws_toMatrix.f a1_0 a1_1 a1_2 a1_3).bind fun bt714 => ((laws_toBall.f a2_0 a2_1 a2_2).bind fun bt718 => ((impl_MoveBall.f k a0 bt714.1 bt714.2.1 bt714.2.2.1 bt714.2.2.2 bt718.1 bt718.2.1 bt718.2.2).bind fun bt721 => ((laws_eqBall.f bt721.1 bt721.2.1 bt721.2.2.1 bt709.1 bt709.2.1 bt709.2.2.1).bind fun t726 => (if t726 = true then (if bt721.2.2.2 = bt709.2.2.2 then (some true) else (none)) else (none)))))))) = some r := H
  have A4 := Aside0.mk A40
  clear A40
  replace H := Option.bind_eq_some_iff.mp H
  obtain ⟨⟨t706, t707, t708⟩, A50, H⟩ := H
  replace H : ((spec_MoveBall.f k a0 t702 t703 t704 t705 t706 t707 t708).bind fun bt709 => ((laws_toMatrix.f a1_0 a1_1 a1_2 a1_3).bind fun bt714 => ((laws_toBall.f a2_0 a2_1 a2_2).bind fun bt718 => ((impl_MoveBall.f k a0 bt714.1 bt714.2.1 bt714.2.2.1 bt714.2.2.2 bt718.1 bt718.2.1 bt718.2.2).bind fun bt721 => ((laws_eqBall.f bt721.1 bt721.2.1 bt721.2.2.1 bt709.1 bt709.2.1 bt709.2.2.1).bind fun t726 => (if t726 = true then (if bt721.2.2.2 = bt709.2.2.2 then (some true) else (none)) else (none))))))) = some r := H
  have A5 := Aside0.mk A50
  clear A50
  replace H := Option.bind_eq_some_iff.mp H
  obtain ⟨⟨t709, t710, t711, t712⟩, A60, H⟩ := H
  replace H : ((laws_toMatrix.f a1_0 a1_1 a1_2 a1_3).bind fun bt714 => ((laws_toBall.f a2_0 a2_1 a2_2).bind fun bt718 => ((impl_MoveBall.f k a0 bt714.1 bt714.2.1 bt714.2.2.1 bt714.2.2.2 bt718.1 bt718.2.1 bt718.2.2).bind fun bt721 => ((laws_eqBall.f bt721.1 bt721.2.1 bt721.2.2.1 t709 t710 t711).bind fun t726 => (if t726 = true then (if bt721.2.2.2 = t712 then (some true) else (none)) else (none)))))) = some r := H
  have A6 := Aside0.mk A60
  clear A60
  replace H := Option.bind_eq_some_iff.mp H
  obtain ⟨⟨t714, t715, t716, t717⟩, A70, H⟩ := H
  replace H : ((laws_toBall.f a2_0 a2_1 a2_2).bind fun bt718 => ((impl_MoveBall.f k a0 t714 t715 t716 t717 bt718.1 bt718.2.1 bt718.2.2).bind fun bt721 => ((laws_eqBall.f bt721.1 bt721.2.1 bt721.2.2.1 t709 t710 t711).bind fun t726 => (if t726 = true then (if bt721.2.2.2 = t712 then (some true) else (none)) else (none))))) = some r := H
  have A7 := Aside0.mk A70
  clear A70
  replace H := Option.bind_eq_some_iff.mp H
  obtain ⟨⟨t718, t719, t720⟩, A80, H⟩ := H
  replace H : ((impl_MoveBall.f k a0 t714 t715 t716 t717 t718 t719 t720).bind fun bt721 => ((laws_eqBall.f bt721.1 bt721.2.1 bt721.2.2.1 t709 t710 t711).bind fun t726 => (if t726 = true then (if bt721.2.2.2 = t712 then (some true) else (none)) else (none)))) = some r := H
  have A8 := Aside0.mk A80
  clear A80
  replace H := Option.bind_eq_some_iff.mp H
  obtain ⟨⟨t721, t722, t723, t724⟩, A90, H⟩ := H
  replace H : ((laws_eqBall.f t721 t722 t723 t709 t710 t711).bind fun t726 => (if t726 = true then (if t724 = t712 then (some true) else (none)) else (none))) = some r := H
  have A9 := Aside0.mk A90
  clear A90
  replace H := Option.bind_eq_some_iff.mp H
  obtain ⟨t726, A100, H⟩ := H
  replace H : (if t726 = true then (if t724 = t712 then (some true) else (none)) else (none)) = some r := H
  have A10 := Aside0.mk A100
  clear A100
  by_cases c11 : t726 = true
  · subst c11
    have H1 : (if t724 = t712 then (some true) else (none)) = some r := by rw [if_pos rfl] at H; exact H
    clear H
    have H := H1
    clear H1
    by_cases c12 : t724 = t712
    · rw [if_pos c12] at H
      have c12b0 : (t724 == t712) = true := beq_iff_eq.mpr c12
      have c12b1 : (t724 != t712) = false := bne_eq_false_iff_eq.mpr c12
      clear c12
      obtain rfl := Option.some.inj H
      go_enter Try.func12, Try.ntmps12
      try go_wp2_with (first | ((with_reducible refine gate_dst (N := 4) rfl ?_); refine box_event ?hg (N := 4) ?hd (cs := #[.int .i64 a1_0, .int .i64 a1_1, .int .i64 a1_2, .int .i64 a1_3]) (t := 23) ?hr ?_; (case hd => rfl); (case hg => rfl); (case hr => first | (go_simp; done) | (go_simp; rfl)); intro gb700 hg w13 hbox hb; have n0_ := Aside0.mk (below_step blA hb); have n1_ := Aside0.mk (hbox); have n2_ := Aside0.mk (szA hg blA); have n3_ := Aside0.mk (szA hg blA); clear HB; have HB := n0_; have BK700 := n1_; have GW700 := n2_; have GE700 := n3_; clear n0_ n1_ n2_ n3_; clear hb hbox hg) | ((with_reducible refine gate_dst (N := 5) rfl ?_); refine box_event ?hg (N := 5) ?hd (cs := #[.int .i64 a2_0, .int .i64 a2_1, .int .i64 a2_2]) (t := 54) ?hr ?_; (case hd => rfl); (case hg => rfl); (case hr => first | (go_simp; done) | (go_simp; rfl)); intro gb701 hg w14 hbox hb; have n0_ := Aside0.mk (blk_below (bkA BK700) hb); have n1_ := Aside0.mk (below_step blA hb); have n2_ := Aside0.mk (hbox); have n3_ := Aside0.mk (szA hg blA); have n4_ := Aside0.mk (szA hg blA); have n5_ := Aside0.mk (neA hg (bkA BK700)); have n6_ := Aside0.mk (neB hg (bkA BK700)); clear BK700; clear HB; have BK700 := n0_; have HB := n1_; have BK701 := n2_; have GW701 := n3_; have GE701 := n4_; have NB700_701 := n5_; have NB701_700 := n6_; clear n0_ n1_ n2_ n3_ n4_ n5_ n6_; clear hb hbox hg))
      have n0_ := Aside0.mk (blk_drew BK700.out)
      have n1_ := Aside0.mk (blk_drew BK701.out)
      have n2_ := Aside0.mk (below_drew1 HB.out)
      clear BK700
      clear BK701
      clear HB
      have BK700 := n0_
      have BK701 := n1_
      have HB := n2_
      clear n0_ n1_ n2_
      refine start_ (n := 12) (S := fun w' => w'.cell? ⟨gb700, 0, none⟩ = some (.int .i64 a1_0) ∧ w'.cell? ⟨gb700, 1, none⟩ = some (.int .i64 a1_1) ∧ w'.cell? ⟨gb700, 2, none⟩ = some (.int .i64 a1_2) ∧ w'.cell? ⟨gb700, 3, none⟩ = some (.int .i64 a1_3) ∧ w'.cell? ⟨gb701, 0, none⟩ = some (.int .i64 a2_0) ∧ w'.cell? ⟨gb701, 1, none⟩ = some (.int .i64 a2_1) ∧ w'.cell? ⟨gb701, 2, none⟩ = some (.int .i64 a2_2)) (ds := []) #[false, false, false, false, false, false, false, false, false, false, false, false] (by kernel_rfl) rfl rfl ⟨(blk_cell BK700.out 0).trans rfl, (blk_cell BK700.out 1).trans rfl, (blk_cell BK700.out 2).trans rfl, (blk_cell BK700.out 3).trans rfl, (blk_cell BK701.out 0).trans rfl, (blk_cell BK701.out 1).trans rfl, (blk_cell BK701.out 2).trans rfl⟩ (fun hHeld => ?_); refine with_tabW laws_FnExactMoveBall.tab1 laws_FnExactMoveBall.bits1 (fun HT_ HW_ => ?_)
      generalize w14.drew = w15 at BK700 BK701 HB hHeld ⊢
      refine pure_ (i := 0) (N := some 12) (v := ?_) (a' := ?_) #[true, false, false, false, false, false, false, false, false, false, false, false] rfl rfl (any_of HT_.out (by kernel_rfl)) (fun _ _ _ h => h) (Or.inl ⟨by rfl, ?_⟩) ?_ ?_
      rotate_left
      · intro w'
        go_simp
        with_reducible rfl
      rotate_left
      · simp only [Act.put, List.setIfInBounds_toArray, List.set_cons_zero, List.set_cons_succ, i64_w, i32_w]
        rfl
      refine take_ (i := 1) (N := some 13) (v := ?_) (a' := ?_) #[true, true, false, false, false, false, false, false, false, false, false, false] rfl rfl (take_ofW HT_.out HW_.out (by kernel_rfl)) (fun _ _ _ h => h) (Or.inl ⟨by rfl, ?_⟩) hHeld ?_ ?_
      rotate_left
      · rintro w' ⟨s0, s1, s2, s3, s4, s5, s6⟩
        go_simp
        with_reducible rfl
      rotate_left
      · simp only [Act.put, List.setIfInBounds_toArray, List.set_cons_zero, List.set_cons_succ, i64_w, i32_w]
        rfl
      refine take_ (i := 3) (N := some 15) (v := ?_) (a' := ?_) #[true, true, false, true, false, false, false, false, false, false, false, false] rfl rfl (take_ofW HT_.out HW_.out (by kernel_rfl)) (fun _ _ _ h => h) (Or.inl ⟨by rfl, ?_⟩) hHeld ?_ ?_
      rotate_left
      · rintro w' ⟨s0, s1, s2, s3, s4, s5, s6⟩
        go_simp
        with_reducible rfl
      rotate_left
      · simp only [Act.put, List.setIfInBounds_toArray, List.set_cons_zero, List.set_cons_succ, i64_w, i32_w]
        rfl
      refine join_ (σ := Nat) 2 #[true, true, true, true, true, true, true, true, true, true, false, false] (fun s_ => [(14, .agg #[.int .i64 t702, .int .i64 t703, .int .i64 t704, .int .i64 t705]), (16, .agg #[.int .i64 t706, .int .i64 t707, .int .i64 t708]), (17, .tuple #[.agg #[.int .i64 t709, .int .i64 t710, .int .i64 t711], .int .i64 t712]), (7, .pointer (some ⟨s_, 0, none⟩)), (11, .tuple #[.agg #[.int .i64 t709, .int .i64 t710, .int .i64 t711], .int .i64 t712]), (18, .agg #[.int .i64 t709, .int .i64 t710, .int .i64 t711]), (19, .int .i64 t712)]) (fun s_ w' => (w'.cell? ⟨gb700, 0, none⟩ = some (.int .i64 a1_0) ∧ w'.cell? ⟨gb700, 1, none⟩ = some (.int .i64 a1_1) ∧ w'.cell? ⟨gb700, 2, none⟩ = some (.int .i64 a1_2) ∧ w'.cell? ⟨gb700, 3, none⟩ = some (.int .i64 a1_3) ∧ w'.cell? ⟨gb701, 0, none⟩ = some (.int .i64 a2_0) ∧ w'.cell? ⟨gb701, 1, none⟩ = some (.int .i64 a2_1) ∧ w'.cell? ⟨gb701, 2, none⟩ = some (.int .i64 a2_2)) ∧ (w'.heap[gb700]? = some (.cells #[.int .i64 a1_0, .int .i64 a1_1, .int .i64 a1_2, .int .i64 a1_3] 23 (0, 0))) ∧ (w'.heap[gb701]? = some (.cells #[.int .i64 a2_0, .int .i64 a2_1, .int .i64 a2_2] 54 (0, 0))) ∧ (w'.heap[s_]? = some (.cells #[.int .i64 0, .int .i64 0, .int .i64 0] 55 (0, 0))) ∧ (w.heap.size ≤ s_) ∧ (w.heap.size ≤ s_) ∧ (gb700 ≠ s_) ∧ (s_ ≠ gb700) ∧ (gb701 ≠ s_) ∧ (s_ ≠ gb701) ∧ (Below w.heap.size w w')) ?_ ?_
      rotate_left
      · intro hCont
        refine two_ (i := 2) (j := 9) (Ni := some 14) (Nj := some 7) #[true, true, true, true, false, false, false, false, false, false, false, false] #[true, true, false, true, false, false, false, false, false, true, false, false] rfl rfl rfl rfl (two_of HT_.out (by kernel_rfl)) (by decide) (by decide) (fun K hK => ?_) (fun K hK => ?_)
        · skip
          refine goes_ Try.func16 (by kernel_rfl) rfl #[.agg #[.int .i64 a1_0, .int .i64 a1_1, .int .i64 a1_2, .int .i64 a1_3]] (by rfl) rfl rfl (by (try simp only [List.map_toArray, List.map_cons, List.map_nil]); first | done | rfl | (simp only [List.length_drop, List.length_take]; rfl)) ?_
          with_reducible refine (laws_toMatrix.calls a1_0 a1_1 a1_2 a1_3 t702 t703 t704 t705 _ A4.out).mono ?_
          rintro e w16 ⟨rfl, hb⟩
          refine ⟨_, rfl, ?_⟩
          have n0_ := Aside0.mk (blk_below (bkA BK700) hb)
          have n1_ := Aside0.mk (blk_below (bkA BK701) hb)
          have n2_ := Aside0.mk (below_step blA hb)
          clear BK700
          clear BK701
          clear HB
          have BK700 := n0_
          have BK701 := n1_
          have HB := n2_
          clear n0_ n1_ n2_
          (try clear hb)
          (try clear hb2)
          (try clear hk)
          (try clear hi)
          refine hK.out _ _ ⟨(blk_cell BK700.out 0).trans rfl, (blk_cell BK700.out 1).trans rfl, (blk_cell BK700.out 2).trans rfl, (blk_cell BK700.out 3).trans rfl, (blk_cell BK701.out 0).trans rfl, (blk_cell BK701.out 1).trans rfl, (blk_cell BK701.out 2).trans rfl⟩ (fun hHeld => ?_)
          clear hK K
          refine norm_ (a' := ?_) ?_ ?_
          rotate_left
          · show Act.put _ (some 14) _ = _
            simp only [Act.put, List.setIfInBounds_toArray, List.set_cons_zero, List.set_cons_succ, i64_w, i32_w]
            rfl
          refine two_ (i := 4) (j := 9) (Ni := some 16) (Nj := some 7) #[true, true, true, true, true, false, false, false, false, false, false, false] #[true, true, true, true, false, false, false, false, false, true, false, false] rfl rfl rfl rfl (two_of HT_.out (by kernel_rfl)) (by decide) (by decide) (fun K hK => ?_) (fun K hK => ?_)
          · skip
            refine goes_ Try.func41 (by kernel_rfl) rfl #[.agg #[.int .i64 a2_0, .int .i64 a2_1, .int .i64 a2_2]] (by rfl) rfl rfl (by (try simp only [List.map_toArray, List.map_cons, List.map_nil]); first | done | rfl | (simp only [List.length_drop, List.length_take]; rfl)) ?_
            with_reducible refine (laws_toBall.calls a2_0 a2_1 a2_2 t706 t707 t708 _ A5.out).mono ?_
            rintro e w17 ⟨rfl, hb⟩
            refine ⟨_, rfl, ?_⟩
            have n0_ := Aside0.mk (blk_below (bkA BK700) hb)
            have n1_ := Aside0.mk (blk_below (bkA BK701) hb)
            have n2_ := Aside0.mk (below_step blA hb)
            clear BK700
            clear BK701
            clear HB
            have BK700 := n0_
            have BK701 := n1_
            have HB := n2_
            clear n0_ n1_ n2_
            (try clear hb)
            (try clear hb2)
            (try clear hk)
            (try clear hi)
            refine hK.out _ _ ⟨(blk_cell BK700.out 0).trans rfl, (blk_cell BK700.out 1).trans rfl, (blk_cell BK700.out 2).trans rfl, (blk_cell BK700.out 3).trans rfl, (blk_cell BK701.out 0).trans rfl, (blk_cell BK701.out 1).trans rfl, (blk_cell BK701.out 2).trans rfl⟩ (fun hHeld => ?_)
            clear hK K
            refine norm_ (a' := ?_) ?_ ?_
            rotate_left
            · show Act.put _ (some 16) _ = _
              simp only [Act.put, List.setIfInBounds_toArray, List.set_cons_zero, List.set_cons_succ, i64_w, i32_w]
              rfl
            refine two_ (i := 5) (j := 9) (Ni := some 17) (Nj := some 7) #[true, true, true, true, true, true, false, false, false, false, false, false] #[true, true, true, true, true, false, false, false, false, true, false, false] rfl rfl rfl rfl (two_of HT_.out (by kernel_rfl)) (by decide) (by decide) (fun K hK => ?_) (fun K hK => ?_)
            · skip
              refine goes_ Try.func40 (by kernel_rfl) rfl #[.int .i64 a0, .agg #[.int .i64 t702, .int .i64 t703, .int .i64 t704, .int .i64 t705], .agg #[.int .i64 t706, .int .i64 t707, .int .i64 t708]] (by rfl) rfl rfl (by (try simp only [List.map_toArray, List.map_cons, List.map_nil]); first | done | rfl | (simp only [List.length_drop, List.length_take]; rfl)) ?_
              with_reducible refine (spec_MoveBall.calls k a0 t702 t703 t704 t705 t706 t707 t708 t709 t710 t711 t712 _ A6.out).mono ?_
              rintro e w18 ⟨rfl, hb⟩
              refine ⟨_, rfl, ?_⟩
              have n0_ := Aside0.mk (blk_below (bkA BK700) hb)
              have n1_ := Aside0.mk (blk_below (bkA BK701) hb)
              have n2_ := Aside0.mk (below_step blA hb)
              clear BK700
              clear BK701
              clear HB
              have BK700 := n0_
              have BK701 := n1_
              have HB := n2_
              clear n0_ n1_ n2_
              (try clear hb)
              (try clear hb2)
              (try clear hk)
              (try clear hi)
              refine hK.out _ _ ⟨(blk_cell BK700.out 0).trans rfl, (blk_cell BK700.out 1).trans rfl, (blk_cell BK700.out 2).trans rfl, (blk_cell BK700.out 3).trans rfl, (blk_cell BK701.out 0).trans rfl, (blk_cell BK701.out 1).trans rfl, (blk_cell BK701.out 2).trans rfl⟩ (fun hHeld => ?_)
              clear hK K
              refine norm_ (a' := ?_) ?_ ?_
              rotate_left
              · show Act.put _ (some 17) _ = _
                simp only [Act.put, List.setIfInBounds_toArray, List.set_cons_zero, List.set_cons_succ, i64_w, i32_w]
                rfl
              refine pure_ (i := 6) (N := some 11) (v := ?_) (a' := ?_) #[true, true, true, true, true, true, true, false, false, false, false, false] rfl rfl (any_of HT_.out (by kernel_rfl)) (fun _ _ _ h => h) (Or.inl ⟨by rfl, ?_⟩) ?_ ?_
              rotate_left
              · intro w'
                go_simp
                with_reducible rfl
              rotate_left
              · simp only [Act.put, List.setIfInBounds_toArray, List.set_cons_zero, List.set_cons_succ, i64_w, i32_w]
                rfl
              refine pure_ (i := 7) (N := some 18) (v := ?_) (a' := ?_) #[true, true, true, true, true, true, true, true, false, false, false, false] rfl rfl (any_of HT_.out (by kernel_rfl)) (fun _ _ _ h => h) (Or.inl ⟨by rfl, ?_⟩) ?_ ?_
              rotate_left
              · intro w'
                go_simp
                with_reducible rfl
              rotate_left
              · simp only [Act.put, List.setIfInBounds_toArray, List.set_cons_zero, List.set_cons_succ, i64_w, i32_w]
                rfl
              refine pure_ (i := 8) (N := some 19) (v := ?_) (a' := ?_) #[true, true, true, true, true, true, true, true, true, false, false, false] rfl rfl (any_of HT_.out (by kernel_rfl)) (fun _ _ _ h => h) (Or.inl ⟨by rfl, ?_⟩) ?_ ?_
              rotate_left
              · intro w'
                go_simp
                with_reducible rfl
              rotate_left
              · simp only [Act.put, List.setIfInBounds_toArray, List.set_cons_zero, List.set_cons_succ, i64_w, i32_w]
                rfl
              refine one_ (i := 9) (N := some 7) #[true, true, true, true, true, true, true, true, true, true, false, false] rfl rfl (one_of HT_.out (by kernel_rfl)) (by decide) (fun K hK => ?_)
              refine box_step ?hg (N := 7) ?hd (cs := #[.int .i64 0, .int .i64 0, .int .i64 0]) (t := 55) ?hr ?_; (case hd => rfl); (case hg => rfl); (case hr => first | (go_simp; done) | (go_simp; rfl))
              intro gb713 hg w19 hbox hb
              have n0_ := Aside0.mk (blk_below (bkA BK700) hb)
              have n1_ := Aside0.mk (blk_below (bkA BK701) hb)
              have n2_ := Aside0.mk (below_step blA hb)
              have n3_ := Aside0.mk (hbox)
              have n4_ := Aside0.mk (szA hg blA)
              have n5_ := Aside0.mk (szA hg blA)
              have n6_ := Aside0.mk (neA hg (bkA BK700))
              have n7_ := Aside0.mk (neB hg (bkA BK700))
              have n8_ := Aside0.mk (neA hg (bkA BK701))
              have n9_ := Aside0.mk (neB hg (bkA BK701))
              clear BK700
              clear BK701
              clear HB
              have BK700 := n0_
              have BK701 := n1_
              have HB := n2_
              have BK713 := n3_
              have GW713 := n4_
              have GE713 := n5_
              have NB700_713 := n6_
              have NB713_700 := n7_
              have NB701_713 := n8_
              have NB713_701 := n9_
              clear n0_ n1_ n2_ n3_ n4_ n5_ n6_ n7_ n8_ n9_
              clear hb hbox hg
              refine hK.out _ _ ⟨(blk_cell BK700.out 0).trans rfl, (blk_cell BK700.out 1).trans rfl, (blk_cell BK700.out 2).trans rfl, (blk_cell BK700.out 3).trans rfl, (blk_cell BK701.out 0).trans rfl, (blk_cell BK701.out 1).trans rfl, (blk_cell BK701.out 2).trans rfl⟩ (fun hHeld => ?_)
              clear hK K
              refine norm_ (a' := ?_) ?_ ?_
              rotate_left
              · show Act.put _ (some 7) _ = _
                simp only [Act.put, List.setIfInBounds_toArray, List.set_cons_zero, List.set_cons_succ, i64_w, i32_w]
                rfl
              exact norm_ (by simp only [putAll, Act.put, List.setIfInBounds_toArray, List.set_cons_zero, List.set_cons_succ]) (hCont (gb713) _ ⟨hHeld, (bkA BK700), (bkA BK701), (bkA BK713), GW713.out, GE713.out, NB700_713.out, NB713_700.out, NB701_713.out, NB713_701.out, blA⟩)
            · skip
              refine box_step ?hg (N := 7) ?hd (cs := #[.int .i64 0, .int .i64 0, .int .i64 0]) (t := 55) ?hr ?_; (case hd => rfl); (case hg => rfl); (case hr => first | (go_simp; done) | (go_simp; rfl))
              intro gb713 hg w18 hbox hb
              have n0_ := Aside0.mk (blk_below (bkA BK700) hb)
              have n1_ := Aside0.mk (blk_below (bkA BK701) hb)
              have n2_ := Aside0.mk (below_step blA hb)
              have n3_ := Aside0.mk (hbox)
              have n4_ := Aside0.mk (szA hg blA)
              have n5_ := Aside0.mk (szA hg blA)
              have n6_ := Aside0.mk (neA hg (bkA BK700))
              have n7_ := Aside0.mk (neB hg (bkA BK700))
              have n8_ := Aside0.mk (neA hg (bkA BK701))
              have n9_ := Aside0.mk (neB hg (bkA BK701))
              clear BK700
              clear BK701
              clear HB
              have BK700 := n0_
              have BK701 := n1_
              have HB := n2_
              have BK713 := n3_
              have GW713 := n4_
              have GE713 := n5_
              have NB700_713 := n6_
              have NB713_700 := n7_
              have NB701_713 := n8_
              have NB713_701 := n9_
              clear n0_ n1_ n2_ n3_ n4_ n5_ n6_ n7_ n8_ n9_
              clear hb hbox hg
              refine hK.out _ _ ⟨(blk_cell BK700.out 0).trans rfl, (blk_cell BK700.out 1).trans rfl, (blk_cell BK700.out 2).trans rfl, (blk_cell BK700.out 3).trans rfl, (blk_cell BK701.out 0).trans rfl, (blk_cell BK701.out 1).trans rfl, (blk_cell BK701.out 2).trans rfl⟩ (fun hHeld => ?_)
              clear hK K
              refine norm_ (a' := ?_) ?_ ?_
              rotate_left
              · show Act.put _ (some 7) _ = _
                simp only [Act.put, List.setIfInBounds_toArray, List.set_cons_zero, List.set_cons_succ, i64_w, i32_w]
                rfl
              refine one_ (i := 5) (N := some 17) #[true, true, true, true, true, true, false, false, false, true, false, false] rfl rfl (one_of HT_.out (by kernel_rfl)) (by decide) (fun K hK => ?_)
              refine goes_ Try.func40 (by kernel_rfl) rfl #[.int .i64 a0, .agg #[.int .i64 t702, .int .i64 t703, .int .i64 t704, .int .i64 t705], .agg #[.int .i64 t706, .int .i64 t707, .int .i64 t708]] (by rfl) rfl rfl (by (try simp only [List.map_toArray, List.map_cons, List.map_nil]); first | done | rfl | (simp only [List.length_drop, List.length_take]; rfl)) ?_
              with_reducible refine (spec_MoveBall.calls k a0 t702 t703 t704 t705 t706 t707 t708 t709 t710 t711 t712 _ A6.out).mono ?_
              rintro e w19 ⟨rfl, hb⟩
              refine ⟨_, rfl, ?_⟩
              have n0_ := Aside0.mk (blk_below (bkA BK700) hb)
              have n1_ := Aside0.mk (blk_below (bkA BK701) hb)
              have n2_ := Aside0.mk (blk_below (bkA BK713) hb)
              have n3_ := Aside0.mk (below_step blA hb)
              clear BK700
              clear BK701
              clear BK713
              clear HB
              have BK700 := n0_
              have BK701 := n1_
              have BK713 := n2_
              have HB := n3_
              clear n0_ n1_ n2_ n3_
              (try clear hb)
              (try clear hb2)
              (try clear hk)
              (try clear hi)
              refine hK.out _ _ ⟨(blk_cell BK700.out 0).trans rfl, (blk_cell BK700.out 1).trans rfl, (blk_cell BK700.out 2).trans rfl, (blk_cell BK700.out 3).trans rfl, (blk_cell BK701.out 0).trans rfl, (blk_cell BK701.out 1).trans rfl, (blk_cell BK701.out 2).trans rfl⟩ (fun hHeld => ?_)
              clear hK K
              refine norm_ (a' := ?_) ?_ ?_
              rotate_left
              · show Act.put _ (some 17) _ = _
                simp only [Act.put, List.setIfInBounds_toArray, List.set_cons_zero, List.set_cons_succ, i64_w, i32_w]
                rfl
              refine pure_ (i := 6) (N := some 11) (v := ?_) (a' := ?_) #[true, true, true, true, true, true, true, false, false, true, false, false] rfl rfl (any_of HT_.out (by kernel_rfl)) (fun _ _ _ h => h) (Or.inl ⟨by rfl, ?_⟩) ?_ ?_
              rotate_left
              · intro w'
                go_simp
                with_reducible rfl
              rotate_left
              · simp only [Act.put, List.setIfInBounds_toArray, List.set_cons_zero, List.set_cons_succ, i64_w, i32_w]
                rfl
              refine pure_ (i := 7) (N := some 18) (v := ?_) (a' := ?_) #[true, true, true, true, true, true, true, true, false, true, false, false] rfl rfl (any_of HT_.out (by kernel_rfl)) (fun _ _ _ h => h) (Or.inl ⟨by rfl, ?_⟩) ?_ ?_
              rotate_left
              · intro w'
                go_simp
                with_reducible rfl
              rotate_left
              · simp only [Act.put, List.setIfInBounds_toArray, List.set_cons_zero, List.set_cons_succ, i64_w, i32_w]
                rfl
              refine pure_ (i := 8) (N := some 19) (v := ?_) (a' := ?_) #[true, true, true, true, true, true, true, true, true, true, false, false] rfl rfl (any_of HT_.out (by kernel_rfl)) (fun _ _ _ h => h) (Or.inl ⟨by rfl, ?_⟩) ?_ ?_
              rotate_left
              · intro w'
                go_simp
                with_reducible rfl
              rotate_left
              · simp only [Act.put, List.setIfInBounds_toArray, List.set_cons_zero, List.set_cons_succ, i64_w, i32_w]
                rfl
              exact norm_ (by simp only [putAll, Act.put, List.setIfInBounds_toArray, List.set_cons_zero, List.set_cons_succ]) (hCont (gb713) _ ⟨hHeld, (bkA BK700), (bkA BK701), (bkA BK713), GW713.out, GE713.out, NB700_713.out, NB713_700.out, NB701_713.out, NB713_701.out, blA⟩)
          · skip
            refine box_step ?hg (N := 7) ?hd (cs := #[.int .i64 0, .int .i64 0, .int .i64 0]) (t := 55) ?hr ?_; (case hd => rfl); (case hg => rfl); (case hr => first | (go_simp; done) | (go_simp; rfl))
            intro gb713 hg w17 hbox hb
            have n0_ := Aside0.mk (blk_below (bkA BK700) hb)
            have n1_ := Aside0.mk (blk_below (bkA BK701) hb)
            have n2_ := Aside0.mk (below_step blA hb)
            have n3_ := Aside0.mk (hbox)
            have n4_ := Aside0.mk (szA hg blA)
            have n5_ := Aside0.mk (szA hg blA)
            have n6_ := Aside0.mk (neA hg (bkA BK700))
            have n7_ := Aside0.mk (neB hg (bkA BK700))
            have n8_ := Aside0.mk (neA hg (bkA BK701))
            have n9_ := Aside0.mk (neB hg (bkA BK701))
            clear BK700
            clear BK701
            clear HB
            have BK700 := n0_
            have BK701 := n1_
            have HB := n2_
            have BK713 := n3_
            have GW713 := n4_
            have GE713 := n5_
            have NB700_713 := n6_
            have NB713_700 := n7_
            have NB701_713 := n8_
            have NB713_701 := n9_
            clear n0_ n1_ n2_ n3_ n4_ n5_ n6_ n7_ n8_ n9_
            clear hb hbox hg
            refine hK.out _ _ ⟨(blk_cell BK700.out 0).trans rfl, (blk_cell BK700.out 1).trans rfl, (blk_cell BK700.out 2).trans rfl, (blk_cell BK700.out 3).trans rfl, (blk_cell BK701.out 0).trans rfl, (blk_cell BK701.out 1).trans rfl, (blk_cell BK701.out 2).trans rfl⟩ (fun hHeld => ?_)
            clear hK K
            refine norm_ (a' := ?_) ?_ ?_
            rotate_left
            · show Act.put _ (some 7) _ = _
              simp only [Act.put, List.setIfInBounds_toArray, List.set_cons_zero, List.set_cons_succ, i64_w, i32_w]
              rfl
            refine one_ (i := 4) (N := some 16) #[true, true, true, true, true, false, false, false, false, true, false, false] rfl rfl (one_of HT_.out (by kernel_rfl)) (by decide) (fun K hK => ?_)
            refine goes_ Try.func41 (by kernel_rfl) rfl #[.agg #[.int .i64 a2_0, .int .i64 a2_1, .int .i64 a2_2]] (by rfl) rfl rfl (by (try simp only [List.map_toArray, List.map_cons, List.map_nil]); first | done | rfl | (simp only [List.length_drop, List.length_take]; rfl)) ?_
            with_reducible refine (laws_toBall.calls a2_0 a2_1 a2_2 t706 t707 t708 _ A5.out).mono ?_
            rintro e w18 ⟨rfl, hb⟩
            refine ⟨_, rfl, ?_⟩
            have n0_ := Aside0.mk (blk_below (bkA BK700) hb)
            have n1_ := Aside0.mk (blk_below (bkA BK701) hb)
            have n2_ := Aside0.mk (blk_below (bkA BK713) hb)
            have n3_ := Aside0.mk (below_step blA hb)
            clear BK700
            clear BK701
            clear BK713
            clear HB
            have BK700 := n0_
            have BK701 := n1_
            have BK713 := n2_
            have HB := n3_
            clear n0_ n1_ n2_ n3_
            (try clear hb)
            (try clear hb2)
            (try clear hk)
            (try clear hi)
            refine hK.out _ _ ⟨(blk_cell BK700.out 0).trans rfl, (blk_cell BK700.out 1).trans rfl, (blk_cell BK700.out 2).trans rfl, (blk_cell BK700.out 3).trans rfl, (blk_cell BK701.out 0).trans rfl, (blk_cell BK701.out 1).trans rfl, (blk_cell BK701.out 2).trans rfl⟩ (fun hHeld => ?_)
            clear hK K
            refine norm_ (a' := ?_) ?_ ?_
            rotate_left
            · show Act.put _ (some 16) _ = _
              simp only [Act.put, List.setIfInBounds_toArray, List.set_cons_zero, List.set_cons_succ, i64_w, i32_w]
              rfl
            refine one_ (i := 5) (N := some 17) #[true, true, true, true, true, true, false, false, false, true, false, false] rfl rfl (one_of HT_.out (by kernel_rfl)) (by decide) (fun K hK => ?_)
            refine goes_ Try.func40 (by kernel_rfl) rfl #[.int .i64 a0, .agg #[.int .i64 t702, .int .i64 t703, .int .i64 t704, .int .i64 t705], .agg #[.int .i64 t706, .int .i64 t707, .int .i64 t708]] (by rfl) rfl rfl (by (try simp only [List.map_toArray, List.map_cons, List.map_nil]); first | done | rfl | (simp only [List.length_drop, List.length_take]; rfl)) ?_
            with_reducible refine (spec_MoveBall.calls k a0 t702 t703 t704 t705 t706 t707 t708 t709 t710 t711 t712 _ A6.out).mono ?_
            rintro e w19 ⟨rfl, hb⟩
            refine ⟨_, rfl, ?_⟩
            have n0_ := Aside0.mk (blk_below (bkA BK700) hb)
            have n1_ := Aside0.mk (blk_below (bkA BK701) hb)
            have n2_ := Aside0.mk (blk_below (bkA BK713) hb)
            have n3_ := Aside0.mk (below_step blA hb)
            clear BK700
            clear BK701
            clear BK713
            clear HB
            have BK700 := n0_
            have BK701 := n1_
            have BK713 := n2_
            have HB := n3_
            clear n0_ n1_ n2_ n3_
            (try clear hb)
            (try clear hb2)
            (try clear hk)
            (try clear hi)
            refine hK.out _ _ ⟨(blk_cell BK700.out 0).trans rfl, (blk_cell BK700.out 1).trans rfl, (blk_cell BK700.out 2).trans rfl, (blk_cell BK700.out 3).trans rfl, (blk_cell BK701.out 0).trans rfl, (blk_cell BK701.out 1).trans rfl, (blk_cell BK701.out 2).trans rfl⟩ (fun hHeld => ?_)
            clear hK K
            refine norm_ (a' := ?_) ?_ ?_
            rotate_left
            · show Act.put _ (some 17) _ = _
              simp only [Act.put, List.setIfInBounds_toArray, List.set_cons_zero, List.set_cons_succ, i64_w, i32_w]
              rfl
            refine pure_ (i := 6) (N := some 11) (v := ?_) (a' := ?_) #[true, true, true, true, true, true, true, false, false, true, false, false] rfl rfl (any_of HT_.out (by kernel_rfl)) (fun _ _ _ h => h) (Or.inl ⟨by rfl, ?_⟩) ?_ ?_
            rotate_left
            · intro w'
              go_simp
              with_reducible rfl
            rotate_left
            · simp only [Act.put, List.setIfInBounds_toArray, List.set_cons_zero, List.set_cons_succ, i64_w, i32_w]
              rfl
            refine pure_ (i := 7) (N := some 18) (v := ?_) (a' := ?_) #[true, true, true, true, true, true, true, true, false, true, false, false] rfl rfl (any_of HT_.out (by kernel_rfl)) (fun _ _ _ h => h) (Or.inl ⟨by rfl, ?_⟩) ?_ ?_
            rotate_left
            · intro w'
              go_simp
              with_reducible rfl
            rotate_left
            · simp only [Act.put, List.setIfInBounds_toArray, List.set_cons_zero, List.set_cons_succ, i64_w, i32_w]
              rfl
            refine pure_ (i := 8) (N := some 19) (v := ?_) (a' := ?_) #[true, true, true, true, true, true, true, true, true, true, false, false] rfl rfl (any_of HT_.out (by kernel_rfl)) (fun _ _ _ h => h) (Or.inl ⟨by rfl, ?_⟩) ?_ ?_
            rotate_left
            · intro w'
              go_simp
              with_reducible rfl
            rotate_left
            · simp only [Act.put, List.setIfInBounds_toArray, List.set_cons_zero, List.set_cons_succ, i64_w, i32_w]
              rfl
            exact norm_ (by simp only [putAll, Act.put, List.setIfInBounds_toArray, List.set_cons_zero, List.set_cons_succ]) (hCont (gb713) _ ⟨hHeld, (bkA BK700), (bkA BK701), (bkA BK713), GW713.out, GE713.out, NB700_713.out, NB713_700.out, NB701_713.out, NB713_701.out, blA⟩)
        · skip
          refine box_step ?hg (N := 7) ?hd (cs := #[.int .i64 0, .int .i64 0, .int .i64 0]) (t := 55) ?hr ?_; (case hd => rfl); (case hg => rfl); (case hr => first | (go_simp; done) | (go_simp; rfl))
          intro gb713 hg w16 hbox hb
          have n0_ := Aside0.mk (blk_below (bkA BK700) hb)
          have n1_ := Aside0.mk (blk_below (bkA BK701) hb)
          have n2_ := Aside0.mk (below_step blA hb)
          have n3_ := Aside0.mk (hbox)
          have n4_ := Aside0.mk (szA hg blA)
          have n5_ := Aside0.mk (szA hg blA)
          have n6_ := Aside0.mk (neA hg (bkA BK700))
          have n7_ := Aside0.mk (neB hg (bkA BK700))
          have n8_ := Aside0.mk (neA hg (bkA BK701))
          have n9_ := Aside0.mk (neB hg (bkA BK701))
          clear BK700
          clear BK701
          clear HB
          have BK700 := n0_
          have BK701 := n1_
          have HB := n2_
          have BK713 := n3_
          have GW713 := n4_
          have GE713 := n5_
          have NB700_713 := n6_
          have NB713_700 := n7_
          have NB701_713 := n8_
          have NB713_701 := n9_
          clear n0_ n1_ n2_ n3_ n4_ n5_ n6_ n7_ n8_ n9_
          clear hb hbox hg
          refine hK.out _ _ ⟨(blk_cell BK700.out 0).trans rfl, (blk_cell BK700.out 1).trans rfl, (blk_cell BK700.out 2).trans rfl, (blk_cell BK700.out 3).trans rfl, (blk_cell BK701.out 0).trans rfl, (blk_cell BK701.out 1).trans rfl, (blk_cell BK701.out 2).trans rfl⟩ (fun hHeld => ?_)
          clear hK K
          refine norm_ (a' := ?_) ?_ ?_
          rotate_left
          · show Act.put _ (some 7) _ = _
            simp only [Act.put, List.setIfInBounds_toArray, List.set_cons_zero, List.set_cons_succ, i64_w, i32_w]
            rfl
          refine one_ (i := 2) (N := some 14) #[true, true, true, true, false, false, false, false, false, true, false, false] rfl rfl (one_of HT_.out (by kernel_rfl)) (by decide) (fun K hK => ?_)
          refine goes_ Try.func16 (by kernel_rfl) rfl #[.agg #[.int .i64 a1_0, .int .i64 a1_1, .int .i64 a1_2, .int .i64 a1_3]] (by rfl) rfl rfl (by (try simp only [List.map_toArray, List.map_cons, List.map_nil]); first | done | rfl | (simp only [List.length_drop, List.length_take]; rfl)) ?_
          with_reducible refine (laws_toMatrix.calls a1_0 a1_1 a1_2 a1_3 t702 t703 t704 t705 _ A4.out).mono ?_
          rintro e w17 ⟨rfl, hb⟩
          refine ⟨_, rfl, ?_⟩
          have n0_ := Aside0.mk (blk_below (bkA BK700) hb)
          have n1_ := Aside0.mk (blk_below (bkA BK701) hb)
          have n2_ := Aside0.mk (blk_below (bkA BK713) hb)
          have n3_ := Aside0.mk (below_step blA hb)
          clear BK700
          clear BK701
          clear BK713
          clear HB
          have BK700 := n0_
          have BK701 := n1_
          have BK713 := n2_
          have HB := n3_
          clear n0_ n1_ n2_ n3_
          (try clear hb)
          (try clear hb2)
          (try clear hk)
          (try clear hi)
          refine hK.out _ _ ⟨(blk_cell BK700.out 0).trans rfl, (blk_cell BK700.out 1).trans rfl, (blk_cell BK700.out 2).trans rfl, (blk_cell BK700.out 3).trans rfl, (blk_cell BK701.out 0).trans rfl, (blk_cell BK701.out 1).trans rfl, (blk_cell BK701.out 2).trans rfl⟩ (fun hHeld => ?_)
          clear hK K
          refine norm_ (a' := ?_) ?_ ?_
          rotate_left
          · show Act.put _ (some 14) _ = _
            simp only [Act.put, List.setIfInBounds_toArray, List.set_cons_zero, List.set_cons_succ, i64_w, i32_w]
            rfl
          refine one_ (i := 4) (N := some 16) #[true, true, true, true, true, false, false, false, false, true, false, false] rfl rfl (one_of HT_.out (by kernel_rfl)) (by decide) (fun K hK => ?_)
          refine goes_ Try.func41 (by kernel_rfl) rfl #[.agg #[.int .i64 a2_0, .int .i64 a2_1, .int .i64 a2_2]] (by rfl) rfl rfl (by (try simp only [List.map_toArray, List.map_cons, List.map_nil]); first | done | rfl | (simp only [List.length_drop, List.length_take]; rfl)) ?_
          with_reducible refine (laws_toBall.calls a2_0 a2_1 a2_2 t706 t707 t708 _ A5.out).mono ?_
          rintro e w18 ⟨rfl, hb⟩
          refine ⟨_, rfl, ?_⟩
          have n0_ := Aside0.mk (blk_below (bkA BK700) hb)
          have n1_ := Aside0.mk (blk_below (bkA BK701) hb)
          have n2_ := Aside0.mk (blk_below (bkA BK713) hb)
          have n3_ := Aside0.mk (below_step blA hb)
          clear BK700
          clear BK701
          clear BK713
          clear HB
          have BK700 := n0_
          have BK701 := n1_
          have BK713 := n2_
          have HB := n3_
          clear n0_ n1_ n2_ n3_
          (try clear hb)
          (try clear hb2)
          (try clear hk)
          (try clear hi)
          refine hK.out _ _ ⟨(blk_cell BK700.out 0).trans rfl, (blk_cell BK700.out 1).trans rfl, (blk_cell BK700.out 2).trans rfl, (blk_cell BK700.out 3).trans rfl, (blk_cell BK701.out 0).trans rfl, (blk_cell BK701.out 1).trans rfl, (blk_cell BK701.out 2).trans rfl⟩ (fun hHeld => ?_)
          clear hK K
          refine norm_ (a' := ?_) ?_ ?_
          rotate_left
          · show Act.put _ (some 16) _ = _
            simp only [Act.put, List.setIfInBounds_toArray, List.set_cons_zero, List.set_cons_succ, i64_w, i32_w]
            rfl
          refine one_ (i := 5) (N := some 17) #[true, true, true, true, true, true, false, false, false, true, false, false] rfl rfl (one_of HT_.out (by kernel_rfl)) (by decide) (fun K hK => ?_)
          refine goes_ Try.func40 (by kernel_rfl) rfl #[.int .i64 a0, .agg #[.int .i64 t702, .int .i64 t703, .int .i64 t704, .int .i64 t705], .agg #[.int .i64 t706, .int .i64 t707, .int .i64 t708]] (by rfl) rfl rfl (by (try simp only [List.map_toArray, List.map_cons, List.map_nil]); first | done | rfl | (simp only [List.length_drop, List.length_take]; rfl)) ?_
          with_reducible refine (spec_MoveBall.calls k a0 t702 t703 t704 t705 t706 t707 t708 t709 t710 t711 t712 _ A6.out).mono ?_
          rintro e w19 ⟨rfl, hb⟩
          refine ⟨_, rfl, ?_⟩
          have n0_ := Aside0.mk (blk_below (bkA BK700) hb)
          have n1_ := Aside0.mk (blk_below (bkA BK701) hb)
          have n2_ := Aside0.mk (blk_below (bkA BK713) hb)
          have n3_ := Aside0.mk (below_step blA hb)
          clear BK700
          clear BK701
          clear BK713
          clear HB
          have BK700 := n0_
          have BK701 := n1_
          have BK713 := n2_
          have HB := n3_
          clear n0_ n1_ n2_ n3_
          (try clear hb)
          (try clear hb2)
          (try clear hk)
          (try clear hi)
          refine hK.out _ _ ⟨(blk_cell BK700.out 0).trans rfl, (blk_cell BK700.out 1).trans rfl, (blk_cell BK700.out 2).trans rfl, (blk_cell BK700.out 3).trans rfl, (blk_cell BK701.out 0).trans rfl, (blk_cell BK701.out 1).trans rfl, (blk_cell BK701.out 2).trans rfl⟩ (fun hHeld => ?_)
          clear hK K
          refine norm_ (a' := ?_) ?_ ?_
          rotate_left
          · show Act.put _ (some 17) _ = _
            simp only [Act.put, List.setIfInBounds_toArray, List.set_cons_zero, List.set_cons_succ, i64_w, i32_w]
            rfl
          refine pure_ (i := 6) (N := some 11) (v := ?_) (a' := ?_) #[true, true, true, true, true, true, true, false, false, true, false, false] rfl rfl (any_of HT_.out (by kernel_rfl)) (fun _ _ _ h => h) (Or.inl ⟨by rfl, ?_⟩) ?_ ?_
          rotate_left
          · intro w'
            go_simp
            with_reducible rfl
          rotate_left
          · simp only [Act.put, List.setIfInBounds_toArray, List.set_cons_zero, List.set_cons_succ, i64_w, i32_w]
            rfl
          refine pure_ (i := 7) (N := some 18) (v := ?_) (a' := ?_) #[true, true, true, true, true, true, true, true, false, true, false, false] rfl rfl (any_of HT_.out (by kernel_rfl)) (fun _ _ _ h => h) (Or.inl ⟨by rfl, ?_⟩) ?_ ?_
          rotate_left
          · intro w'
            go_simp
            with_reducible rfl
          rotate_left
          · simp only [Act.put, List.setIfInBounds_toArray, List.set_cons_zero, List.set_cons_succ, i64_w, i32_w]
            rfl
          refine pure_ (i := 8) (N := some 19) (v := ?_) (a' := ?_) #[true, true, true, true, true, true, true, true, true, true, false, false] rfl rfl (any_of HT_.out (by kernel_rfl)) (fun _ _ _ h => h) (Or.inl ⟨by rfl, ?_⟩) ?_ ?_
          rotate_left
          · intro w'
            go_simp
            with_reducible rfl
          rotate_left
          · simp only [Act.put, List.setIfInBounds_toArray, List.set_cons_zero, List.set_cons_succ, i64_w, i32_w]
            rfl
          exact norm_ (by simp only [putAll, Act.put, List.setIfInBounds_toArray, List.set_cons_zero, List.set_cons_succ]) (hCont (gb713) _ ⟨hHeld, (bkA BK700), (bkA BK701), (bkA BK713), GW713.out, GE713.out, NB700_713.out, NB713_700.out, NB701_713.out, NB713_701.out, blA⟩)
      rintro gb713 w20 ⟨hS_, h0_, h1_, h2_, h3_, h4_, h5_, h6_, h7_, h8_, h9_⟩
      have n0_ : Aside0 (w20.heap[gb700]? = some (.cells #[.int .i64 a1_0, .int .i64 a1_1, .int .i64 a1_2, .int .i64 a1_3] 23 (0, 0))) := ⟨h0_⟩
      have n1_ : Aside0 (w20.heap[gb701]? = some (.cells #[.int .i64 a2_0, .int .i64 a2_1, .int .i64 a2_2] 54 (0, 0))) := ⟨h1_⟩
      have n2_ : Aside0 (w20.heap[gb713]? = some (.cells #[.int .i64 0, .int .i64 0, .int .i64 0] 55 (0, 0))) := ⟨h2_⟩
      have n3_ : Aside0 (w.heap.size ≤ gb713) := ⟨h3_⟩
      have n4_ : Aside0 (w.heap.size ≤ gb713) := ⟨h4_⟩
      have n5_ : Aside0 (gb700 ≠ gb713) := ⟨h5_⟩
      have n6_ : Aside0 (gb713 ≠ gb700) := ⟨h6_⟩
      have n7_ : Aside0 (gb701 ≠ gb713) := ⟨h7_⟩
      have n8_ : Aside0 (gb713 ≠ gb701) := ⟨h8_⟩
      have n9_ : Aside0 (Below w.heap.size w w20) := ⟨h9_⟩
      clear BK700
      clear BK701
      clear HB
      clear h0_ h1_ h2_ h3_ h4_ h5_ h6_ h7_ h8_ h9_
      have BK700 := n0_
      have BK701 := n1_
      have BK713 := n2_
      have GW713 := n3_
      have GE713 := n4_
      have NB700_713 := n5_
      have NB713_700 := n6_
      have NB701_713 := n7_
      have NB713_701 := n8_
      have HB := n9_
      clear n0_ n1_ n2_ n3_ n4_ n5_ n6_ n7_ n8_ n9_
      have hHeld : w20.cell? ⟨gb700, 0, none⟩ = some (.int .i64 a1_0) ∧ w20.cell? ⟨gb700, 1, none⟩ = some (.int .i64 a1_1) ∧ w20.cell? ⟨gb700, 2, none⟩ = some (.int .i64 a1_2) ∧ w20.cell? ⟨gb700, 3, none⟩ = some (.int .i64 a1_3) ∧ w20.cell? ⟨gb701, 0, none⟩ = some (.int .i64 a2_0) ∧ w20.cell? ⟨gb701, 1, none⟩ = some (.int .i64 a2_1) ∧ w20.cell? ⟨gb701, 2, none⟩ = some (.int .i64 a2_2) := hS_
      refine norm_ (a' := ?_) ?_ ?_
      rotate_left
      · simp only [putAll, Act.put, List.setIfInBounds_toArray, List.set_cons_zero, List.set_cons_succ]
        rfl
      refine one_ (i := 10) (N := none) #[true, true, true, true, true, true, true, true, true, true, true, false] rfl rfl (one_of HT_.out (by kernel_rfl)) (by decide) (fun K hK => ?_)
      have hs21 : w20.cell? ⟨gb713, 0, none⟩ = some (.int .i64 0) := (blk_cell BK713.out 0).trans rfl
      have hfs21 := blk_frozen BK713.out 0
      have hns21_0 := NB700_713.out
      have hns21_1 := NB701_713.out
      have hms21_0 := NB713_700.out
      have hms21_1 := NB713_701.out
      have hs22 : w20.cell? ⟨gb713, 1, none⟩ = some (.int .i64 0) := (blk_cell BK713.out 1).trans rfl
      have hfs22 := blk_frozen BK713.out 1
      have hns22_0 := NB700_713.out
      have hns22_1 := NB701_713.out
      have hms22_0 := NB713_700.out
      have hms22_1 := NB713_701.out
      have hs23 : w20.cell? ⟨gb713, 2, none⟩ = some (.int .i64 0) := (blk_cell BK713.out 2).trans rfl
      have hfs23 := blk_frozen BK713.out 2
      have hns23_0 := NB700_713.out
      have hns23_1 := NB701_713.out
      have hms23_0 := NB713_700.out
      have hms23_1 := NB713_701.out
      refine skip_ (w1 := ?_) (by rfl) rfl ?_ ?_
      rotate_left
      · go_simp
        rfl
      refine hK.out _ _ ⟨((cell_far (p := ⟨gb713, _, none⟩) NB700_713.out _).trans (((cell_far (p := ⟨gb713, _, none⟩) NB700_713.out _).trans (((cell_far (p := ⟨gb713, _, none⟩) NB700_713.out _).trans (hHeld.1)))))), ((cell_far (p := ⟨gb713, _, none⟩) NB700_713.out _).trans (((cell_far (p := ⟨gb713, _, none⟩) NB700_713.out _).trans (((cell_far (p := ⟨gb713, _, none⟩) NB700_713.out _).trans (hHeld.2.1)))))), ((cell_far (p := ⟨gb713, _, none⟩) NB700_713.out _).trans (((cell_far (p := ⟨gb713, _, none⟩) NB700_713.out _).trans (((cell_far (p := ⟨gb713, _, none⟩) NB700_713.out _).trans (hHeld.2.2.1)))))), ((cell_far (p := ⟨gb713, _, none⟩) NB700_713.out _).trans (((cell_far (p := ⟨gb713, _, none⟩) NB700_713.out _).trans (((cell_far (p := ⟨gb713, _, none⟩) NB700_713.out _).trans (hHeld.2.2.2.1)))))), ((cell_far (p := ⟨gb713, _, none⟩) NB701_713.out _).trans (((cell_far (p := ⟨gb713, _, none⟩) NB701_713.out _).trans (((cell_far (p := ⟨gb713, _, none⟩) NB701_713.out _).trans (hHeld.2.2.2.2.1)))))), ((cell_far (p := ⟨gb713, _, none⟩) NB701_713.out _).trans (((cell_far (p := ⟨gb713, _, none⟩) NB701_713.out _).trans (((cell_far (p := ⟨gb713, _, none⟩) NB701_713.out _).trans (hHeld.2.2.2.2.2.1)))))), ((cell_far (p := ⟨gb713, _, none⟩) NB701_713.out _).trans (((cell_far (p := ⟨gb713, _, none⟩) NB701_713.out _).trans (((cell_far (p := ⟨gb713, _, none⟩) NB701_713.out _).trans (hHeld.2.2.2.2.2.2))))))⟩ (fun hHeld => ?_)
      clear hK K
      refine pure_ (i := 11) (N := some 8) (v := ?_) (a' := ?_) #[true, true, true, true, true, true, true, true, true, true, true, true] rfl rfl (any_of HT_.out (by kernel_rfl)) (fun _ _ _ h => h) (Or.inl ⟨by rfl, ?_⟩) ?_ ?_
      rotate_left
      · intro w'
        go_simp
        with_reducible rfl
      rotate_left
      · simp only [Act.put, List.setIfInBounds_toArray, List.set_cons_zero, List.set_cons_succ, i64_w, i32_w]
        rfl
      refine done_ (done_of HT_.out (by kernel_rfl)) ?_
      try go_wp2
      have n0_ : Aside0 ((((w20.setCell ⟨gb713, 0, none⟩ (.int .i64 t709)).setCell ⟨gb713, 1, none⟩ (.int .i64 t710)).setCell ⟨gb713, 2, none⟩ (.int .i64 t711)).heap[gb700]? = some (.cells #[.int .i64 a1_0, .int .i64 a1_1, .int .i64 a1_2, .int .i64 a1_3] 23 (0, 0))) := ⟨by (with_reducible repeat (first | refine blk_drewN ?_ _ | refine blk_drew ?_ | refine blk_alloc ?_ _)); refine blk_far ?_ NB700_713.out _; (with_reducible repeat (first | refine blk_drewN ?_ _ | refine blk_drew ?_ | refine blk_alloc ?_ _)); refine blk_far ?_ NB700_713.out _; (with_reducible repeat (first | refine blk_drewN ?_ _ | refine blk_drew ?_ | refine blk_alloc ?_ _)); refine blk_far ?_ NB700_713.out _; (with_reducible repeat (first | refine blk_drewN ?_ _ | refine blk_drew ?_ | refine blk_alloc ?_ _)); exact BK700.out⟩
      have n1_ : Aside0 ((((w20.setCell ⟨gb713, 0, none⟩ (.int .i64 t709)).setCell ⟨gb713, 1, none⟩ (.int .i64 t710)).setCell ⟨gb713, 2, none⟩ (.int .i64 t711)).heap[gb701]? = some (.cells #[.int .i64 a2_0, .int .i64 a2_1, .int .i64 a2_2] 54 (0, 0))) := ⟨by (with_reducible repeat (first | refine blk_drewN ?_ _ | refine blk_drew ?_ | refine blk_alloc ?_ _)); refine blk_far ?_ NB701_713.out _; (with_reducible repeat (first | refine blk_drewN ?_ _ | refine blk_drew ?_ | refine blk_alloc ?_ _)); refine blk_far ?_ NB701_713.out _; (with_reducible repeat (first | refine blk_drewN ?_ _ | refine blk_drew ?_ | refine blk_alloc ?_ _)); refine blk_far ?_ NB701_713.out _; (with_reducible repeat (first | refine blk_drewN ?_ _ | refine blk_drew ?_ | refine blk_alloc ?_ _)); exact BK701.out⟩
      have n2_ : Aside0 ((((w20.setCell ⟨gb713, 0, none⟩ (.int .i64 t709)).setCell ⟨gb713, 1, none⟩ (.int .i64 t710)).setCell ⟨gb713, 2, none⟩ (.int .i64 t711)).heap[gb713]? = some (.cells #[.int .i64 t709, .int .i64 t710, .int .i64 t711] 55 (0, 0))) := ⟨by (with_reducible repeat (first | refine blk_drewN ?_ _ | refine blk_drew ?_ | refine blk_alloc ?_ _)); refine blk_put (cs := #[.int .i64 t709, .int .i64 t710, .int .i64 0]) ?_ 2 _ rfl; (with_reducible repeat (first | refine blk_drewN ?_ _ | refine blk_drew ?_ | refine blk_alloc ?_ _)); refine blk_put (cs := #[.int .i64 t709, .int .i64 0, .int .i64 0]) ?_ 1 _ rfl; (with_reducible repeat (first | refine blk_drewN ?_ _ | refine blk_drew ?_ | refine blk_alloc ?_ _)); refine blk_put (cs := #[.int .i64 0, .int .i64 0, .int .i64 0]) ?_ 0 _ rfl; (with_reducible repeat (first | refine blk_drewN ?_ _ | refine blk_drew ?_ | refine blk_alloc ?_ _)); exact BK713.out⟩
      have n3_ : Aside0 (Below w.heap.size w (((w20.setCell ⟨gb713, 0, none⟩ (.int .i64 t709)).setCell ⟨gb713, 1, none⟩ (.int .i64 t710)).setCell ⟨gb713, 2, none⟩ (.int .i64 t711))) := ⟨blA⟩
      (try clear BK700)
      (try clear BK701)
      (try clear BK713)
      (try clear HB)
      generalize (((w20.setCell ⟨gb713, 0, none⟩ (.int .i64 t709)).setCell ⟨gb713, 1, none⟩ (.int .i64 t710)).setCell ⟨gb713, 2, none⟩ (.int .i64 t711)) = w24 at n0_ n1_ n2_ n3_ ⊢
      have BK700 := n0_
      have BK701 := n1_
      have BK713 := n2_
      have HB := n3_
      clear n0_ n1_ n2_ n3_
      have n0_ := Aside0.mk (blk_drew BK700.out)
      have n1_ := Aside0.mk (blk_drew BK701.out)
      have n2_ := Aside0.mk (blk_drew BK713.out)
      have n3_ := Aside0.mk (below_drew1 HB.out)
      clear BK700
      clear BK701
      clear BK713
      clear HB
      have BK700 := n0_
      have BK701 := n1_
      have BK713 := n2_
      have HB := n3_
      clear n0_ n1_ n2_ n3_
      refine start_ (n := 12) (S := fun w' => w'.cell? ⟨gb700, 0, none⟩ = some (.int .i64 a1_0) ∧ w'.cell? ⟨gb700, 1, none⟩ = some (.int .i64 a1_1) ∧ w'.cell? ⟨gb700, 2, none⟩ = some (.int .i64 a1_2) ∧ w'.cell? ⟨gb700, 3, none⟩ = some (.int .i64 a1_3) ∧ w'.cell? ⟨gb701, 0, none⟩ = some (.int .i64 a2_0) ∧ w'.cell? ⟨gb701, 1, none⟩ = some (.int .i64 a2_1) ∧ w'.cell? ⟨gb701, 2, none⟩ = some (.int .i64 a2_2)) (ds := []) #[false, false, false, false, false, false, false, false, false, false, false, false] (by kernel_rfl) rfl rfl ⟨(blk_cell BK700.out 0).trans rfl, (blk_cell BK700.out 1).trans rfl, (blk_cell BK700.out 2).trans rfl, (blk_cell BK700.out 3).trans rfl, (blk_cell BK701.out 0).trans rfl, (blk_cell BK701.out 1).trans rfl, (blk_cell BK701.out 2).trans rfl⟩ (fun hHeld => ?_); refine with_tabW laws_FnExactMoveBall.tab2 laws_FnExactMoveBall.bits2 (fun HT_ HW_ => ?_)
      generalize w24.drew = w25 at BK700 BK701 BK713 HB hHeld ⊢
      refine pure_ (i := 0) (N := some 21) (v := ?_) (a' := ?_) #[true, false, false, false, false, false, false, false, false, false, false, false] rfl rfl (any_of HT_.out (by kernel_rfl)) (fun _ _ _ h => h) (Or.inl ⟨by rfl, ?_⟩) ?_ ?_
      rotate_left
      · intro w'
        go_simp
        with_reducible rfl
      rotate_left
      · simp only [Act.put, List.setIfInBounds_toArray, List.set_cons_zero, List.set_cons_succ, i64_w, i32_w]
        rfl
      refine take_ (i := 1) (N := some 22) (v := ?_) (a' := ?_) #[true, true, false, false, false, false, false, false, false, false, false, false] rfl rfl (take_ofW HT_.out HW_.out (by kernel_rfl)) (fun _ _ _ h => h) (Or.inl ⟨by rfl, ?_⟩) hHeld ?_ ?_
      rotate_left
      · rintro w' ⟨s0, s1, s2, s3, s4, s5, s6⟩
        go_simp
        with_reducible rfl
      rotate_left
      · simp only [Act.put, List.setIfInBounds_toArray, List.set_cons_zero, List.set_cons_succ, i64_w, i32_w]
        rfl
      refine take_ (i := 3) (N := some 24) (v := ?_) (a' := ?_) #[true, true, false, true, false, false, false, false, false, false, false, false] rfl rfl (take_ofW HT_.out HW_.out (by kernel_rfl)) (fun _ _ _ h => h) (Or.inl ⟨by rfl, ?_⟩) hHeld ?_ ?_
      rotate_left
      · rintro w' ⟨s0, s1, s2, s3, s4, s5, s6⟩
        go_simp
        with_reducible rfl
      rotate_left
      · simp only [Act.put, List.setIfInBounds_toArray, List.set_cons_zero, List.set_cons_succ, i64_w, i32_w]
        rfl
      refine join_ (σ := Nat) 2 #[true, true, true, true, true, true, true, true, true, true, false, false] (fun s_ => [(23, .agg #[.int .i64 t714, .int .i64 t715, .int .i64 t716, .int .i64 t717]), (25, .agg #[.int .i64 t718, .int .i64 t719, .int .i64 t720]), (26, .tuple #[.agg #[.int .i64 t721, .int .i64 t722, .int .i64 t723], .int .i64 t724]), (9, .pointer (some ⟨s_, 0, none⟩)), (20, .tuple #[.agg #[.int .i64 t721, .int .i64 t722, .int .i64 t723], .int .i64 t724]), (27, .agg #[.int .i64 t721, .int .i64 t722, .int .i64 t723]), (28, .int .i64 t724)]) (fun s_ w' => (w'.cell? ⟨gb700, 0, none⟩ = some (.int .i64 a1_0) ∧ w'.cell? ⟨gb700, 1, none⟩ = some (.int .i64 a1_1) ∧ w'.cell? ⟨gb700, 2, none⟩ = some (.int .i64 a1_2) ∧ w'.cell? ⟨gb700, 3, none⟩ = some (.int .i64 a1_3) ∧ w'.cell? ⟨gb701, 0, none⟩ = some (.int .i64 a2_0) ∧ w'.cell? ⟨gb701, 1, none⟩ = some (.int .i64 a2_1) ∧ w'.cell? ⟨gb701, 2, none⟩ = some (.int .i64 a2_2)) ∧ (w'.heap[gb700]? = some (.cells #[.int .i64 a1_0, .int .i64 a1_1, .int .i64 a1_2, .int .i64 a1_3] 23 (0, 0))) ∧ (w'.heap[gb701]? = some (.cells #[.int .i64 a2_0, .int .i64 a2_1, .int .i64 a2_2] 54 (0, 0))) ∧ (w'.heap[gb713]? = some (.cells #[.int .i64 t709, .int .i64 t710, .int .i64 t711] 55 (0, 0))) ∧ (w'.heap[s_]? = some (.cells #[.int .i64 0, .int .i64 0, .int .i64 0] 55 (0, 0))) ∧ (w.heap.size ≤ s_) ∧ (w.heap.size ≤ s_) ∧ (gb700 ≠ s_) ∧ (s_ ≠ gb700) ∧ (gb701 ≠ s_) ∧ (s_ ≠ gb701) ∧ (gb713 ≠ s_) ∧ (s_ ≠ gb713) ∧ (Below w.heap.size w w')) ?_ ?_
      rotate_left
      · intro hCont
        refine two_ (i := 2) (j := 9) (Ni := some 23) (Nj := some 9) #[true, true, true, true, false, false, false, false, false, false, false, false] #[true, true, false, true, false, false, false, false, false, true, false, false] rfl rfl rfl rfl (two_of HT_.out (by kernel_rfl)) (by decide) (by decide) (fun K hK => ?_) (fun K hK => ?_)
        · skip
          refine goes_ Try.func16 (by kernel_rfl) rfl #[.agg #[.int .i64 a1_0, .int .i64 a1_1, .int .i64 a1_2, .int .i64 a1_3]] (by rfl) rfl rfl (by (try simp only [List.map_toArray, List.map_cons, List.map_nil]); first | done | rfl | (simp only [List.length_drop, List.length_take]; rfl)) ?_
          with_reducible refine (laws_toMatrix.calls a1_0 a1_1 a1_2 a1_3 t714 t715 t716 t717 _ A7.out).mono ?_
          rintro e w26 ⟨rfl, hb⟩
          refine ⟨_, rfl, ?_⟩
          have n0_ := Aside0.mk (blk_below (bkA BK700) hb)
          have n1_ := Aside0.mk (blk_below (bkA BK701) hb)
          have n2_ := Aside0.mk (blk_below (bkA BK713) hb)
          have n3_ := Aside0.mk (below_step blA hb)
          clear BK700
          clear BK701
          clear BK713
          clear HB
          have BK700 := n0_
          have BK701 := n1_
          have BK713 := n2_
          have HB := n3_
          clear n0_ n1_ n2_ n3_
          (try clear hb)
          (try clear hb2)
          (try clear hk)
          (try clear hi)
          refine hK.out _ _ ⟨(blk_cell BK700.out 0).trans rfl, (blk_cell BK700.out 1).trans rfl, (blk_cell BK700.out 2).trans rfl, (blk_cell BK700.out 3).trans rfl, (blk_cell BK701.out 0).trans rfl, (blk_cell BK701.out 1).trans rfl, (blk_cell BK701.out 2).trans rfl⟩ (fun hHeld => ?_)
          clear hK K
          refine norm_ (a' := ?_) ?_ ?_
          rotate_left
          · show Act.put _ (some 23) _ = _
            simp only [Act.put, List.setIfInBounds_toArray, List.set_cons_zero, List.set_cons_succ, i64_w, i32_w]
            rfl
          refine two_ (i := 4) (j := 9) (Ni := some 25) (Nj := some 9) #[true, true, true, true, true, false, false, false, false, false, false, false] #[true, true, true, true, false, false, false, false, false, true, false, false] rfl rfl rfl rfl (two_of HT_.out (by kernel_rfl)) (by decide) (by decide) (fun K hK => ?_) (fun K hK => ?_)
          · skip
            refine goes_ Try.func41 (by kernel_rfl) rfl #[.agg #[.int .i64 a2_0, .int .i64 a2_1, .int .i64 a2_2]] (by rfl) rfl rfl (by (try simp only [List.map_toArray, List.map_cons, List.map_nil]); first | done | rfl | (simp only [List.length_drop, List.length_take]; rfl)) ?_
            with_reducible refine (laws_toBall.calls a2_0 a2_1 a2_2 t718 t719 t720 _ A8.out).mono ?_
            rintro e w27 ⟨rfl, hb⟩
            refine ⟨_, rfl, ?_⟩
            have n0_ := Aside0.mk (blk_below (bkA BK700) hb)
            have n1_ := Aside0.mk (blk_below (bkA BK701) hb)
            have n2_ := Aside0.mk (blk_below (bkA BK713) hb)
            have n3_ := Aside0.mk (below_step blA hb)
            clear BK700
            clear BK701
            clear BK713
            clear HB
            have BK700 := n0_
            have BK701 := n1_
            have BK713 := n2_
            have HB := n3_
            clear n0_ n1_ n2_ n3_
            (try clear hb)
            (try clear hb2)
            (try clear hk)
            (try clear hi)
            refine hK.out _ _ ⟨(blk_cell BK700.out 0).trans rfl, (blk_cell BK700.out 1).trans rfl, (blk_cell BK700.out 2).trans rfl, (blk_cell BK700.out 3).trans rfl, (blk_cell BK701.out 0).trans rfl, (blk_cell BK701.out 1).trans rfl, (blk_cell BK701.out 2).trans rfl⟩ (fun hHeld => ?_)
            clear hK K
            refine norm_ (a' := ?_) ?_ ?_
            rotate_left
            · show Act.put _ (some 25) _ = _
              simp only [Act.put, List.setIfInBounds_toArray, List.set_cons_zero, List.set_cons_succ, i64_w, i32_w]
              rfl
            refine two_ (i := 5) (j := 9) (Ni := some 26) (Nj := some 9) #[true, true, true, true, true, true, false, false, false, false, false, false] #[true, true, true, true, true, false, false, false, false, true, false, false] rfl rfl rfl rfl (two_of HT_.out (by kernel_rfl)) (by decide) (by decide) (fun K hK => ?_) (fun K hK => ?_)
            · skip
              refine goes_ Try.func42 (by kernel_rfl) rfl #[.int .i64 a0, .agg #[.int .i64 t714, .int .i64 t715, .int .i64 t716, .int .i64 t717], .agg #[.int .i64 t718, .int .i64 t719, .int .i64 t720]] (by rfl) rfl rfl (by (try simp only [List.map_toArray, List.map_cons, List.map_nil]); first | done | rfl | (simp only [List.length_drop, List.length_take]; rfl)) ?_
              with_reducible refine (impl_MoveBall.calls k a0 t714 t715 t716 t717 t718 t719 t720 t721 t722 t723 t724 _ A9.out).mono ?_
              rintro e w28 ⟨rfl, hb⟩
              refine ⟨_, rfl, ?_⟩
              have n0_ := Aside0.mk (blk_below (bkA BK700) hb)
              have n1_ := Aside0.mk (blk_below (bkA BK701) hb)
              have n2_ := Aside0.mk (blk_below (bkA BK713) hb)
              have n3_ := Aside0.mk (below_step blA hb)
              clear BK700
              clear BK701
              clear BK713
              clear HB
              have BK700 := n0_
              have BK701 := n1_
              have BK713 := n2_
              have HB := n3_
              clear n0_ n1_ n2_ n3_
              (try clear hb)
              (try clear hb2)
              (try clear hk)
              (try clear hi)
              refine hK.out _ _ ⟨(blk_cell BK700.out 0).trans rfl, (blk_cell BK700.out 1).trans rfl, (blk_cell BK700.out 2).trans rfl, (blk_cell BK700.out 3).trans rfl, (blk_cell BK701.out 0).trans rfl, (blk_cell BK701.out 1).trans rfl, (blk_cell BK701.out 2).trans rfl⟩ (fun hHeld => ?_)
              clear hK K
              refine norm_ (a' := ?_) ?_ ?_
              rotate_left
              · show Act.put _ (some 26) _ = _
                simp only [Act.put, List.setIfInBounds_toArray, List.set_cons_zero, List.set_cons_succ, i64_w, i32_w]
                rfl
              refine pure_ (i := 6) (N := some 20) (v := ?_) (a' := ?_) #[true, true, true, true, true, true, true, false, false, false, false, false] rfl rfl (any_of HT_.out (by kernel_rfl)) (fun _ _ _ h => h) (Or.inl ⟨by rfl, ?_⟩) ?_ ?_
              rotate_left
              · intro w'
                go_simp
                with_reducible rfl
              rotate_left
              · simp only [Act.put, List.setIfInBounds_toArray, List.set_cons_zero, List.set_cons_succ, i64_w, i32_w]
                rfl
              refine pure_ (i := 7) (N := some 27) (v := ?_) (a' := ?_) #[true, true, true, true, true, true, true, true, false, false, false, false] rfl rfl (any_of HT_.out (by kernel_rfl)) (fun _ _ _ h => h) (Or.inl ⟨by rfl, ?_⟩) ?_ ?_
              rotate_left
              · intro w'
                go_simp
                with_reducible rfl
              rotate_left
              · simp only [Act.put, List.setIfInBounds_toArray, List.set_cons_zero, List.set_cons_succ, i64_w, i32_w]
                rfl
              refine pure_ (i := 8) (N := some 28) (v := ?_) (a' := ?_) #[true, true, true, true, true, true, true, true, true, false, false, false] rfl rfl (any_of HT_.out (by kernel_rfl)) (fun _ _ _ h => h) (Or.inl ⟨by rfl, ?_⟩) ?_ ?_
              rotate_left
              · intro w'
                go_simp
                with_reducible rfl
              rotate_left
              · simp only [Act.put, List.setIfInBounds_toArray, List.set_cons_zero, List.set_cons_succ, i64_w, i32_w]
                rfl
              refine one_ (i := 9) (N := some 9) #[true, true, true, true, true, true, true, true, true, true, false, false] rfl rfl (one_of HT_.out (by kernel_rfl)) (by decide) (fun K hK => ?_)
              refine box_step ?hg (N := 9) ?hd (cs := #[.int .i64 0, .int .i64 0, .int .i64 0]) (t := 55) ?hr ?_; (case hd => rfl); (case hg => rfl); (case hr => first | (go_simp; done) | (go_simp; rfl))
              intro gb725 hg w29 hbox hb
              have n0_ := Aside0.mk (blk_below (bkA BK700) hb)
              have n1_ := Aside0.mk (blk_below (bkA BK701) hb)
              have n2_ := Aside0.mk (blk_below (bkA BK713) hb)
              have n3_ := Aside0.mk (below_step blA hb)
              have n4_ := Aside0.mk (hbox)
              have n5_ := Aside0.mk (szA hg blA)
              have n6_ := Aside0.mk (szA hg blA)
              have n7_ := Aside0.mk (neA hg (bkA BK700))
              have n8_ := Aside0.mk (neB hg (bkA BK700))
              have n9_ := Aside0.mk (neA hg (bkA BK701))
              have n10_ := Aside0.mk (neB hg (bkA BK701))
              have n11_ := Aside0.mk (neA hg (bkA BK713))
              have n12_ := Aside0.mk (neB hg (bkA BK713))
              clear BK700
              clear BK701
              clear BK713
              clear HB
              have BK700 := n0_
              have BK701 := n1_
              have BK713 := n2_
              have HB := n3_
              have BK725 := n4_
              have GW725 := n5_
              have GE725 := n6_
              have NB700_725 := n7_
              have NB725_700 := n8_
              have NB701_725 := n9_
              have NB725_701 := n10_
              have NB713_725 := n11_
              have NB725_713 := n12_
              clear n0_ n1_ n2_ n3_ n4_ n5_ n6_ n7_ n8_ n9_ n10_ n11_ n12_
              clear hb hbox hg
              refine hK.out _ _ ⟨(blk_cell BK700.out 0).trans rfl, (blk_cell BK700.out 1).trans rfl, (blk_cell BK700.out 2).trans rfl, (blk_cell BK700.out 3).trans rfl, (blk_cell BK701.out 0).trans rfl, (blk_cell BK701.out 1).trans rfl, (blk_cell BK701.out 2).trans rfl⟩ (fun hHeld => ?_)
              clear hK K
              refine norm_ (a' := ?_) ?_ ?_
              rotate_left
              · show Act.put _ (some 9) _ = _
                simp only [Act.put, List.setIfInBounds_toArray, List.set_cons_zero, List.set_cons_succ, i64_w, i32_w]
                rfl
              exact norm_ (by simp only [putAll, Act.put, List.setIfInBounds_toArray, List.set_cons_zero, List.set_cons_succ]) (hCont (gb725) _ ⟨hHeld, (bkA BK700), (bkA BK701), (bkA BK713), (bkA BK725), GW725.out, GE725.out, NB700_725.out, NB725_700.out, NB701_725.out, NB725_701.out, NB713_725.out, NB725_713.out, blA⟩)
            · skip
              refine box_step ?hg (N := 9) ?hd (cs := #[.int .i64 0, .int .i64 0, .int .i64 0]) (t := 55) ?hr ?_; (case hd => rfl); (case hg => rfl); (case hr => first | (go_simp; done) | (go_simp; rfl))
              intro gb725 hg w28 hbox hb
              have n0_ := Aside0.mk (blk_below (bkA BK700) hb)
              have n1_ := Aside0.mk (blk_below (bkA BK701) hb)
              have n2_ := Aside0.mk (blk_below (bkA BK713) hb)
              have n3_ := Aside0.mk (below_step blA hb)
              have n4_ := Aside0.mk (hbox)
              have n5_ := Aside0.mk (szA hg blA)
              have n6_ := Aside0.mk (szA hg blA)
              have n7_ := Aside0.mk (neA hg (bkA BK700))
              have n8_ := Aside0.mk (neB hg (bkA BK700))
              have n9_ := Aside0.mk (neA hg (bkA BK701))
              have n10_ := Aside0.mk (neB hg (bkA BK701))
              have n11_ := Aside0.mk (neA hg (bkA BK713))
              have n12_ := Aside0.mk (neB hg (bkA BK713))
              clear BK700
              clear BK701
              clear BK713
              clear HB
              have BK700 := n0_
              have BK701 := n1_
              have BK713 := n2_
              have HB := n3_
              have BK725 := n4_
              have GW725 := n5_
              have GE725 := n6_
              have NB700_725 := n7_
              have NB725_700 := n8_
              have NB701_725 := n9_
              have NB725_701 := n10_
              have NB713_725 := n11_
              have NB725_713 := n12_
              clear n0_ n1_ n2_ n3_ n4_ n5_ n6_ n7_ n8_ n9_ n10_ n11_ n12_
              clear hb hbox hg
              refine hK.out _ _ ⟨(blk_cell BK700.out 0).trans rfl, (blk_cell BK700.out 1).trans rfl, (blk_cell BK700.out 2).trans rfl, (blk_cell BK700.out 3).trans rfl, (blk_cell BK701.out 0).trans rfl, (blk_cell BK701.out 1).trans rfl, (blk_cell BK701.out 2).trans rfl⟩ (fun hHeld => ?_)
              clear hK K
              refine norm_ (a' := ?_) ?_ ?_
              rotate_left
              · show Act.put _ (some 9) _ = _
                simp only [Act.put, List.setIfInBounds_toArray, List.set_cons_zero, List.set_cons_succ, i64_w, i32_w]
                rfl
              refine one_ (i := 5) (N := some 26) #[true, true, true, true, true, true, false, false, false, true, false, false] rfl rfl (one_of HT_.out (by kernel_rfl)) (by decide) (fun K hK => ?_)
              refine goes_ Try.func42 (by kernel_rfl) rfl #[.int .i64 a0, .agg #[.int .i64 t714, .int .i64 t715, .int .i64 t716, .int .i64 t717], .agg #[.int .i64 t718, .int .i64 t719, .int .i64 t720]] (by rfl) rfl rfl (by (try simp only [List.map_toArray, List.map_cons, List.map_nil]); first | done | rfl | (simp only [List.length_drop, List.length_take]; rfl)) ?_
              with_reducible refine (impl_MoveBall.calls k a0 t714 t715 t716 t717 t718 t719 t720 t721 t722 t723 t724 _ A9.out).mono ?_
              rintro e w29 ⟨rfl, hb⟩
              refine ⟨_, rfl, ?_⟩
              have n0_ := Aside0.mk (blk_below (bkA BK700) hb)
              have n1_ := Aside0.mk (blk_below (bkA BK701) hb)
              have n2_ := Aside0.mk (blk_below (bkA BK713) hb)
              have n3_ := Aside0.mk (blk_below (bkA BK725) hb)
              have n4_ := Aside0.mk (below_step blA hb)
              clear BK700
              clear BK701
              clear BK713
              clear BK725
              clear HB
              have BK700 := n0_
              have BK701 := n1_
              have BK713 := n2_
              have BK725 := n3_
              have HB := n4_
              clear n0_ n1_ n2_ n3_ n4_
              (try clear hb)
              (try clear hb2)
              (try clear hk)
              (try clear hi)
              refine hK.out _ _ ⟨(blk_cell BK700.out 0).trans rfl, (blk_cell BK700.out 1).trans rfl, (blk_cell BK700.out 2).trans rfl, (blk_cell BK700.out 3).trans rfl, (blk_cell BK701.out 0).trans rfl, (blk_cell BK701.out 1).trans rfl, (blk_cell BK701.out 2).trans rfl⟩ (fun hHeld => ?_)
              clear hK K
              refine norm_ (a' := ?_) ?_ ?_
              rotate_left
              · show Act.put _ (some 26) _ = _
                simp only [Act.put, List.setIfInBounds_toArray, List.set_cons_zero, List.set_cons_succ, i64_w, i32_w]
                rfl
              refine pure_ (i := 6) (N := some 20) (v := ?_) (a' := ?_) #[true, true, true, true, true, true, true, false, false, true, false, false] rfl rfl (any_of HT_.out (by kernel_rfl)) (fun _ _ _ h => h) (Or.inl ⟨by rfl, ?_⟩) ?_ ?_
              rotate_left
              · intro w'
                go_simp
                with_reducible rfl
              rotate_left
              · simp only [Act.put, List.setIfInBounds_toArray, List.set_cons_zero, List.set_cons_succ, i64_w, i32_w]
                rfl
              refine pure_ (i := 7) (N := some 27) (v := ?_) (a' := ?_) #[true, true, true, true, true, true, true, true, false, true, false, false] rfl rfl (any_of HT_.out (by kernel_rfl)) (fun _ _ _ h => h) (Or.inl ⟨by rfl, ?_⟩) ?_ ?_
              rotate_left
              · intro w'
                go_simp
                with_reducible rfl
              rotate_left
              · simp only [Act.put, List.setIfInBounds_toArray, List.set_cons_zero, List.set_cons_succ, i64_w, i32_w]
                rfl
              refine pure_ (i := 8) (N := some 28) (v := ?_) (a' := ?_) #[true, true, true, true, true, true, true, true, true, true, false, false] rfl rfl (any_of HT_.out (by kernel_rfl)) (fun _ _ _ h => h) (Or.inl ⟨by rfl, ?_⟩) ?_ ?_
              rotate_left
              · intro w'
                go_simp
                with_reducible rfl
              rotate_left
              · simp only [Act.put, List.setIfInBounds_toArray, List.set_cons_zero, List.set_cons_succ, i64_w, i32_w]
                rfl
              exact norm_ (by simp only [putAll, Act.put, List.setIfInBounds_toArray, List.set_cons_zero, List.set_cons_succ]) (hCont (gb725) _ ⟨hHeld, (bkA BK700), (bkA BK701), (bkA BK713), (bkA BK725), GW725.out, GE725.out, NB700_725.out, NB725_700.out, NB701_725.out, NB725_701.out, NB713_725.out, NB725_713.out, blA⟩)
          · skip
            refine box_step ?hg (N := 9) ?hd (cs := #[.int .i64 0, .int .i64 0, .int .i64 0]) (t := 55) ?hr ?_; (case hd => rfl); (case hg => rfl); (case hr => first | (go_simp; done) | (go_simp; rfl))
            intro gb725 hg w27 hbox hb
            have n0_ := Aside0.mk (blk_below (bkA BK700) hb)
            have n1_ := Aside0.mk (blk_below (bkA BK701) hb)
            have n2_ := Aside0.mk (blk_below (bkA BK713) hb)
            have n3_ := Aside0.mk (below_step blA hb)
            have n4_ := Aside0.mk (hbox)
            have n5_ := Aside0.mk (szA hg blA)
            have n6_ := Aside0.mk (szA hg blA)
            have n7_ := Aside0.mk (neA hg (bkA BK700))
            have n8_ := Aside0.mk (neB hg (bkA BK700))
            have n9_ := Aside0.mk (neA hg (bkA BK701))
            have n10_ := Aside0.mk (neB hg (bkA BK701))
            have n11_ := Aside0.mk (neA hg (bkA BK713))
            have n12_ := Aside0.mk (neB hg (bkA BK713))
            clear BK700
            clear BK701
            clear BK713
            clear HB
            have BK700 := n0_
            have BK701 := n1_
            have BK713 := n2_
            have HB := n3_
            have BK725 := n4_
            have GW725 := n5_
            have GE725 := n6_
            have NB700_725 := n7_
            have NB725_700 := n8_
            have NB701_725 := n9_
            have NB725_701 := n10_
            have NB713_725 := n11_
            have NB725_713 := n12_
            clear n0_ n1_ n2_ n3_ n4_ n5_ n6_ n7_ n8_ n9_ n10_ n11_ n12_
            clear hb hbox hg
            refine hK.out _ _ ⟨(blk_cell BK700.out 0).trans rfl, (blk_cell BK700.out 1).trans rfl, (blk_cell BK700.out 2).trans rfl, (blk_cell BK700.out 3).trans rfl, (blk_cell BK701.out 0).trans rfl, (blk_cell BK701.out 1).trans rfl, (blk_cell BK701.out 2).trans rfl⟩ (fun hHeld => ?_)
            clear hK K
            refine norm_ (a' := ?_) ?_ ?_
            rotate_left
            · show Act.put _ (some 9) _ = _
              simp only [Act.put, List.setIfInBounds_toArray, List.set_cons_zero, List.set_cons_succ, i64_w, i32_w]
              rfl
            refine one_ (i := 4) (N := some 25) #[true, true, true, true, true, false, false, false, false, true, false, false] rfl rfl (one_of HT_.out (by kernel_rfl)) (by decide) (fun K hK => ?_)
            refine goes_ Try.func41 (by kernel_rfl) rfl #[.agg #[.int .i64 a2_0, .int .i64 a2_1, .int .i64 a2_2]] (by rfl) rfl rfl (by (try simp only [List.map_toArray, List.map_cons, List.map_nil]); first | done | rfl | (simp only [List.length_drop, List.length_take]; rfl)) ?_
            with_reducible refine (laws_toBall.calls a2_0 a2_1 a2_2 t718 t719 t720 _ A8.out).mono ?_
            rintro e w28 ⟨rfl, hb⟩
            refine ⟨_, rfl, ?_⟩
            have n0_ := Aside0.mk (blk_below (bkA BK700) hb)
            have n1_ := Aside0.mk (blk_below (bkA BK701) hb)
            have n2_ := Aside0.mk (blk_below (bkA BK713) hb)
            have n3_ := Aside0.mk (blk_below (bkA BK725) hb)
            have n4_ := Aside0.mk (below_step blA hb)
            clear BK700
            clear BK701
            clear BK713
            clear BK725
            clear HB
            have BK700 := n0_
            have BK701 := n1_
            have BK713 := n2_
            have BK725 := n3_
            have HB := n4_
            clear n0_ n1_ n2_ n3_ n4_
            (try clear hb)
            (try clear hb2)
            (try clear hk)
            (try clear hi)
            refine hK.out _ _ ⟨(blk_cell BK700.out 0).trans rfl, (blk_cell BK700.out 1).trans rfl, (blk_cell BK700.out 2).trans rfl, (blk_cell BK700.out 3).trans rfl, (blk_cell BK701.out 0).trans rfl, (blk_cell BK701.out 1).trans rfl, (blk_cell BK701.out 2).trans rfl⟩ (fun hHeld => ?_)
            clear hK K
            refine norm_ (a' := ?_) ?_ ?_
            rotate_left
            · show Act.put _ (some 25) _ = _
              simp only [Act.put, List.setIfInBounds_toArray, List.set_cons_zero, List.set_cons_succ, i64_w, i32_w]
              rfl
            refine one_ (i := 5) (N := some 26) #[true, true, true, true, true, true, false, false, false, true, false, false] rfl rfl (one_of HT_.out (by kernel_rfl)) (by decide) (fun K hK => ?_)
            refine goes_ Try.func42 (by kernel_rfl) rfl #[.int .i64 a0, .agg #[.int .i64 t714, .int .i64 t715, .int .i64 t716, .int .i64 t717], .agg #[.int .i64 t718, .int .i64 t719, .int .i64 t720]] (by rfl) rfl rfl (by (try simp only [List.map_toArray, List.map_cons, List.map_nil]); first | done | rfl | (simp only [List.length_drop, List.length_take]; rfl)) ?_
            with_reducible refine (impl_MoveBall.calls k a0 t714 t715 t716 t717 t718 t719 t720 t721 t722 t723 t724 _ A9.out).mono ?_
            rintro e w29 ⟨rfl, hb⟩
            refine ⟨_, rfl, ?_⟩
            have n0_ := Aside0.mk (blk_below (bkA BK700) hb)
            have n1_ := Aside0.mk (blk_below (bkA BK701) hb)
            have n2_ := Aside0.mk (blk_below (bkA BK713) hb)
            have n3_ := Aside0.mk (blk_below (bkA BK725) hb)
            have n4_ := Aside0.mk (below_step blA hb)
            clear BK700
            clear BK701
            clear BK713
            clear BK725
            clear HB
            have BK700 := n0_
            have BK701 := n1_
            have BK713 := n2_
            have BK725 := n3_
            have HB := n4_
            clear n0_ n1_ n2_ n3_ n4_
            (try clear hb)
            (try clear hb2)
            (try clear hk)
            (try clear hi)
            refine hK.out _ _ ⟨(blk_cell BK700.out 0).trans rfl, (blk_cell BK700.out 1).trans rfl, (blk_cell BK700.out 2).trans rfl, (blk_cell BK700.out 3).trans rfl, (blk_cell BK701.out 0).trans rfl, (blk_cell BK701.out 1).trans rfl, (blk_cell BK701.out 2).trans rfl⟩ (fun hHeld => ?_)
            clear hK K
            refine norm_ (a' := ?_) ?_ ?_
            rotate_left
            · show Act.put _ (some 26) _ = _
              simp only [Act.put, List.setIfInBounds_toArray, List.set_cons_zero, List.set_cons_succ, i64_w, i32_w]
              rfl
            refine pure_ (i := 6) (N := some 20) (v := ?_) (a' := ?_) #[true, true, true, true, true, true, true, false, false, true, false, false] rfl rfl (any_of HT_.out (by kernel_rfl)) (fun _ _ _ h => h) (Or.inl ⟨by rfl, ?_⟩) ?_ ?_
            rotate_left
            · intro w'
              go_simp
              with_reducible rfl
            rotate_left
            · simp only [Act.put, List.setIfInBounds_toArray, List.set_cons_zero, List.set_cons_succ, i64_w, i32_w]
              rfl
            refine pure_ (i := 7) (N := some 27) (v := ?_) (a' := ?_) #[true, true, true, true, true, true, true, true, false, true, false, false] rfl rfl (any_of HT_.out (by kernel_rfl)) (fun _ _ _ h => h) (Or.inl ⟨by rfl, ?_⟩) ?_ ?_
            rotate_left
            · intro w'
              go_simp
              with_reducible rfl
            rotate_left
            · simp only [Act.put, List.setIfInBounds_toArray, List.set_cons_zero, List.set_cons_succ, i64_w, i32_w]
              rfl
            refine pure_ (i := 8) (N := some 28) (v := ?_) (a' := ?_) #[true, true, true, true, true, true, true, true, true, true, false, false] rfl rfl (any_of HT_.out (by kernel_rfl)) (fun _ _ _ h => h) (Or.inl ⟨by rfl, ?_⟩) ?_ ?_
            rotate_left
            · intro w'
              go_simp
              with_reducible rfl
            rotate_left
            · simp only [Act.put, List.setIfInBounds_toArray, List.set_cons_zero, List.set_cons_succ, i64_w, i32_w]
              rfl
            exact norm_ (by simp only [putAll, Act.put, List.setIfInBounds_toArray, List.set_cons_zero, List.set_cons_succ]) (hCont (gb725) _ ⟨hHeld, (bkA BK700), (bkA BK701), (bkA BK713), (bkA BK725), GW725.out, GE725.out, NB700_725.out, NB725_700.out, NB701_725.out, NB725_701.out, NB713_725.out, NB725_713.out, blA⟩)
        · skip
          refine box_step ?hg (N := 9) ?hd (cs := #[.int .i64 0, .int .i64 0, .int .i64 0]) (t := 55) ?hr ?_; (case hd => rfl); (case hg => rfl); (case hr => first | (go_simp; done) | (go_simp; rfl))
          intro gb725 hg w26 hbox hb
          have n0_ := Aside0.mk (blk_below (bkA BK700) hb)
          have n1_ := Aside0.mk (blk_below (bkA BK701) hb)
          have n2_ := Aside0.mk (blk_below (bkA BK713) hb)
          have n3_ := Aside0.mk (below_step blA hb)
          have n4_ := Aside0.mk (hbox)
          have n5_ := Aside0.mk (szA hg blA)
          have n6_ := Aside0.mk (szA hg blA)
          have n7_ := Aside0.mk (neA hg (bkA BK700))
          have n8_ := Aside0.mk (neB hg (bkA BK700))
          have n9_ := Aside0.mk (neA hg (bkA BK701))
          have n10_ := Aside0.mk (neB hg (bkA BK701))
          have n11_ := Aside0.mk (neA hg (bkA BK713))
          have n12_ := Aside0.mk (neB hg (bkA BK713))
          clear BK700
          clear BK701
          clear BK713
          clear HB
          have BK700 := n0_
          have BK701 := n1_
          have BK713 := n2_
          have HB := n3_
          have BK725 := n4_
          have GW725 := n5_
          have GE725 := n6_
          have NB700_725 := n7_
          have NB725_700 := n8_
          have NB701_725 := n9_
          have NB725_701 := n10_
          have NB713_725 := n11_
          have NB725_713 := n12_
          clear n0_ n1_ n2_ n3_ n4_ n5_ n6_ n7_ n8_ n9_ n10_ n11_ n12_
          clear hb hbox hg
          refine hK.out _ _ ⟨(blk_cell BK700.out 0).trans rfl, (blk_cell BK700.out 1).trans rfl, (blk_cell BK700.out 2).trans rfl, (blk_cell BK700.out 3).trans rfl, (blk_cell BK701.out 0).trans rfl, (blk_cell BK701.out 1).trans rfl, (blk_cell BK701.out 2).trans rfl⟩ (fun hHeld => ?_)
          clear hK K
          refine norm_ (a' := ?_) ?_ ?_
          rotate_left
          · show Act.put _ (some 9) _ = _
            simp only [Act.put, List.setIfInBounds_toArray, List.set_cons_zero, List.set_cons_succ, i64_w, i32_w]
            rfl
          refine one_ (i := 2) (N := some 23) #[true, true, true, true, false, false, false, false, false, true, false, false] rfl rfl (one_of HT_.out (by kernel_rfl)) (by decide) (fun K hK => ?_)
          refine goes_ Try.func16 (by kernel_rfl) rfl #[.agg #[.int .i64 a1_0, .int .i64 a1_1, .int .i64 a1_2, .int .i64 a1_3]] (by rfl) rfl rfl (by (try simp only [List.map_toArray, List.map_cons, List.map_nil]); first | done | rfl | (simp only [List.length_drop, List.length_take]; rfl)) ?_
          with_reducible refine (laws_toMatrix.calls a1_0 a1_1 a1_2 a1_3 t714 t715 t716 t717 _ A7.out).mono ?_
          rintro e w27 ⟨rfl, hb⟩
          refine ⟨_, rfl, ?_⟩
          have n0_ := Aside0.mk (blk_below (bkA BK700) hb)
          have n1_ := Aside0.mk (blk_below (bkA BK701) hb)
          have n2_ := Aside0.mk (blk_below (bkA BK713) hb)
          have n3_ := Aside0.mk (blk_below (bkA BK725) hb)
          have n4_ := Aside0.mk (below_step blA hb)
          clear BK700
          clear BK701
          clear BK713
          clear BK725
          clear HB
          have BK700 := n0_
          have BK701 := n1_
          have BK713 := n2_
          have BK725 := n3_
          have HB := n4_
          clear n0_ n1_ n2_ n3_ n4_
          (try clear hb)
          (try clear hb2)
          (try clear hk)
          (try clear hi)
          refine hK.out _ _ ⟨(blk_cell BK700.out 0).trans rfl, (blk_cell BK700.out 1).trans rfl, (blk_cell BK700.out 2).trans rfl, (blk_cell BK700.out 3).trans rfl, (blk_cell BK701.out 0).trans rfl, (blk_cell BK701.out 1).trans rfl, (blk_cell BK701.out 2).trans rfl⟩ (fun hHeld => ?_)
          clear hK K
          refine norm_ (a' := ?_) ?_ ?_
          rotate_left
          · show Act.put _ (some 23) _ = _
            simp only [Act.put, List.setIfInBounds_toArray, List.set_cons_zero, List.set_cons_succ, i64_w, i32_w]
            rfl
          refine one_ (i := 4) (N := some 25) #[true, true, true, true, true, false, false, false, false, true, false, false] rfl rfl (one_of HT_.out (by kernel_rfl)) (by decide) (fun K hK => ?_)
          refine goes_ Try.func41 (by kernel_rfl) rfl #[.agg #[.int .i64 a2_0, .int .i64 a2_1, .int .i64 a2_2]] (by rfl) rfl rfl (by (try simp only [List.map_toArray, List.map_cons, List.map_nil]); first | done | rfl | (simp only [List.length_drop, List.length_take]; rfl)) ?_
          with_reducible refine (laws_toBall.calls a2_0 a2_1 a2_2 t718 t719 t720 _ A8.out).mono ?_
          rintro e w28 ⟨rfl, hb⟩
          refine ⟨_, rfl, ?_⟩
          have n0_ := Aside0.mk (blk_below (bkA BK700) hb)
          have n1_ := Aside0.mk (blk_below (bkA BK701) hb)
          have n2_ := Aside0.mk (blk_below (bkA BK713) hb)
          have n3_ := Aside0.mk (blk_below (bkA BK725) hb)
          have n4_ := Aside0.mk (below_step blA hb)
          clear BK700
          clear BK701
          clear BK713
          clear BK725
          clear HB
          have BK700 := n0_
          have BK701 := n1_
          have BK713 := n2_
          have BK725 := n3_
          have HB := n4_
          clear n0_ n1_ n2_ n3_ n4_
          (try clear hb)
          (try clear hb2)
          (try clear hk)
          (try clear hi)
          refine hK.out _ _ ⟨(blk_cell BK700.out 0).trans rfl, (blk_cell BK700.out 1).trans rfl, (blk_cell BK700.out 2).trans rfl, (blk_cell BK700.out 3).trans rfl, (blk_cell BK701.out 0).trans rfl, (blk_cell BK701.out 1).trans rfl, (blk_cell BK701.out 2).trans rfl⟩ (fun hHeld => ?_)
          clear hK K
          refine norm_ (a' := ?_) ?_ ?_
          rotate_left
          · show Act.put _ (some 25) _ = _
            simp only [Act.put, List.setIfInBounds_toArray, List.set_cons_zero, List.set_cons_succ, i64_w, i32_w]
            rfl
          refine one_ (i := 5) (N := some 26) #[true, true, true, true, true, true, false, false, false, true, false, false] rfl rfl (one_of HT_.out (by kernel_rfl)) (by decide) (fun K hK => ?_)
          refine goes_ Try.func42 (by kernel_rfl) rfl #[.int .i64 a0, .agg #[.int .i64 t714, .int .i64 t715, .int .i64 t716, .int .i64 t717], .agg #[.int .i64 t718, .int .i64 t719, .int .i64 t720]] (by rfl) rfl rfl (by (try simp only [List.map_toArray, List.map_cons, List.map_nil]); first | done | rfl | (simp only [List.length_drop, List.length_take]; rfl)) ?_
          with_reducible refine (impl_MoveBall.calls k a0 t714 t715 t716 t717 t718 t719 t720 t721 t722 t723 t724 _ A9.out).mono ?_
          rintro e w29 ⟨rfl, hb⟩
          refine ⟨_, rfl, ?_⟩
          have n0_ := Aside0.mk (blk_below (bkA BK700) hb)
          have n1_ := Aside0.mk (blk_below (bkA BK701) hb)
          have n2_ := Aside0.mk (blk_below (bkA BK713) hb)
          have n3_ := Aside0.mk (blk_below (bkA BK725) hb)
          have n4_ := Aside0.mk (below_step blA hb)
          clear BK700
          clear BK701
          clear BK713
          clear BK725
          clear HB
          have BK700 := n0_
          have BK701 := n1_
          have BK713 := n2_
          have BK725 := n3_
          have HB := n4_
          clear n0_ n1_ n2_ n3_ n4_
          (try clear hb)
          (try clear hb2)
          (try clear hk)
          (try clear hi)
          refine hK.out _ _ ⟨(blk_cell BK700.out 0).trans rfl, (blk_cell BK700.out 1).trans rfl, (blk_cell BK700.out 2).trans rfl, (blk_cell BK700.out 3).trans rfl, (blk_cell BK701.out 0).trans rfl, (blk_cell BK701.out 1).trans rfl, (blk_cell BK701.out 2).trans rfl⟩ (fun hHeld => ?_)
          clear hK K
          refine norm_ (a' := ?_) ?_ ?_
          rotate_left
          · show Act.put _ (some 26) _ = _
            simp only [Act.put, List.setIfInBounds_toArray, List.set_cons_zero, List.set_cons_succ, i64_w, i32_w]
            rfl
          refine pure_ (i := 6) (N := some 20) (v := ?_) (a' := ?_) #[true, true, true, true, true, true, true, false, false, true, false, false] rfl rfl (any_of HT_.out (by kernel_rfl)) (fun _ _ _ h => h) (Or.inl ⟨by rfl, ?_⟩) ?_ ?_
          rotate_left
          · intro w'
            go_simp
            with_reducible rfl
          rotate_left
          · simp only [Act.put, List.setIfInBounds_toArray, List.set_cons_zero, List.set_cons_succ, i64_w, i32_w]
            rfl
          refine pure_ (i := 7) (N := some 27) (v := ?_) (a' := ?_) #[true, true, true, true, true, true, true, true, false, true, false, false] rfl rfl (any_of HT_.out (by kernel_rfl)) (fun _ _ _ h => h) (Or.inl ⟨by rfl, ?_⟩) ?_ ?_
          rotate_left
          · intro w'
            go_simp
            with_reducible rfl
          rotate_left
          · simp only [Act.put, List.setIfInBounds_toArray, List.set_cons_zero, List.set_cons_succ, i64_w, i32_w]
            rfl
          refine pure_ (i := 8) (N := some 28) (v := ?_) (a' := ?_) #[true, true, true, true, true, true, true, true, true, true, false, false] rfl rfl (any_of HT_.out (by kernel_rfl)) (fun _ _ _ h => h) (Or.inl ⟨by rfl, ?_⟩) ?_ ?_
          rotate_left
          · intro w'
            go_simp
            with_reducible rfl
          rotate_left
          · simp only [Act.put, List.setIfInBounds_toArray, List.set_cons_zero, List.set_cons_succ, i64_w, i32_w]
            rfl
          exact norm_ (by simp only [putAll, Act.put, List.setIfInBounds_toArray, List.set_cons_zero, List.set_cons_succ]) (hCont (gb725) _ ⟨hHeld, (bkA BK700), (bkA BK701), (bkA BK713), (bkA BK725), GW725.out, GE725.out, NB700_725.out, NB725_700.out, NB701_725.out, NB725_701.out, NB713_725.out, NB725_713.out, blA⟩)
      rintro gb725 w30 ⟨hS_, h0_, h1_, h2_, h3_, h4_, h5_, h6_, h7_, h8_, h9_, h10_, h11_, h12_⟩
      have n0_ : Aside0 (w30.heap[gb700]? = some (.cells #[.int .i64 a1_0, .int .i64 a1_1, .int .i64 a1_2, .int .i64 a1_3] 23 (0, 0))) := ⟨h0_⟩
      have n1_ : Aside0 (w30.heap[gb701]? = some (.cells #[.int .i64 a2_0, .int .i64 a2_1, .int .i64 a2_2] 54 (0, 0))) := ⟨h1_⟩
      have n2_ : Aside0 (w30.heap[gb713]? = some (.cells #[.int .i64 t709, .int .i64 t710, .int .i64 t711] 55 (0, 0))) := ⟨h2_⟩
      have n3_ : Aside0 (w30.heap[gb725]? = some (.cells #[.int .i64 0, .int .i64 0, .int .i64 0] 55 (0, 0))) := ⟨h3_⟩
      have n4_ : Aside0 (w.heap.size ≤ gb725) := ⟨h4_⟩
      have n5_ : Aside0 (w.heap.size ≤ gb725) := ⟨h5_⟩
      have n6_ : Aside0 (gb700 ≠ gb725) := ⟨h6_⟩
      have n7_ : Aside0 (gb725 ≠ gb700) := ⟨h7_⟩
      have n8_ : Aside0 (gb701 ≠ gb725) := ⟨h8_⟩
      have n9_ : Aside0 (gb725 ≠ gb701) := ⟨h9_⟩
      have n10_ : Aside0 (gb713 ≠ gb725) := ⟨h10_⟩
      have n11_ : Aside0 (gb725 ≠ gb713) := ⟨h11_⟩
      have n12_ : Aside0 (Below w.heap.size w w30) := ⟨h12_⟩
      clear BK700
      clear BK701
      clear BK713
      clear HB
      clear h0_ h1_ h2_ h3_ h4_ h5_ h6_ h7_ h8_ h9_ h10_ h11_ h12_
      have BK700 := n0_
      have BK701 := n1_
      have BK713 := n2_
      have BK725 := n3_
      have GW725 := n4_
      have GE725 := n5_
      have NB700_725 := n6_
      have NB725_700 := n7_
      have NB701_725 := n8_
      have NB725_701 := n9_
      have NB713_725 := n10_
      have NB725_713 := n11_
      have HB := n12_
      clear n0_ n1_ n2_ n3_ n4_ n5_ n6_ n7_ n8_ n9_ n10_ n11_ n12_
      have hHeld : w30.cell? ⟨gb700, 0, none⟩ = some (.int .i64 a1_0) ∧ w30.cell? ⟨gb700, 1, none⟩ = some (.int .i64 a1_1) ∧ w30.cell? ⟨gb700, 2, none⟩ = some (.int .i64 a1_2) ∧ w30.cell? ⟨gb700, 3, none⟩ = some (.int .i64 a1_3) ∧ w30.cell? ⟨gb701, 0, none⟩ = some (.int .i64 a2_0) ∧ w30.cell? ⟨gb701, 1, none⟩ = some (.int .i64 a2_1) ∧ w30.cell? ⟨gb701, 2, none⟩ = some (.int .i64 a2_2) := hS_
      refine norm_ (a' := ?_) ?_ ?_
      rotate_left
      · simp only [putAll, Act.put, List.setIfInBounds_toArray, List.set_cons_zero, List.set_cons_succ]
        rfl
      refine one_ (i := 10) (N := none) #[true, true, true, true, true, true, true, true, true, true, true, false] rfl rfl (one_of HT_.out (by kernel_rfl)) (by decide) (fun K hK => ?_)
      have hs31 : w30.cell? ⟨gb725, 0, none⟩ = some (.int .i64 0) := (blk_cell BK725.out 0).trans rfl
      have hfs31 := blk_frozen BK725.out 0
      have hns31_0 := NB700_725.out
      have hns31_1 := NB701_725.out
      have hns31_2 := NB713_725.out
      have hms31_0 := NB725_700.out
      have hms31_1 := NB725_701.out
      have hms31_2 := NB725_713.out
      have hs32 : w30.cell? ⟨gb725, 1, none⟩ = some (.int .i64 0) := (blk_cell BK725.out 1).trans rfl
      have hfs32 := blk_frozen BK725.out 1
      have hns32_0 := NB700_725.out
      have hns32_1 := NB701_725.out
      have hns32_2 := NB713_725.out
      have hms32_0 := NB725_700.out
      have hms32_1 := NB725_701.out
      have hms32_2 := NB725_713.out
      have hs33 : w30.cell? ⟨gb725, 2, none⟩ = some (.int .i64 0) := (blk_cell BK725.out 2).trans rfl
      have hfs33 := blk_frozen BK725.out 2
      have hns33_0 := NB700_725.out
      have hns33_1 := NB701_725.out
      have hns33_2 := NB713_725.out
      have hms33_0 := NB725_700.out
      have hms33_1 := NB725_701.out
      have hms33_2 := NB725_713.out
      refine skip_ (w1 := ?_) (by rfl) rfl ?_ ?_
      rotate_left
      · go_simp
        rfl
      refine hK.out _ _ ⟨((cell_far (p := ⟨gb725, _, none⟩) NB700_725.out _).trans (((cell_far (p := ⟨gb725, _, none⟩) NB700_725.out _).trans (((cell_far (p := ⟨gb725, _, none⟩) NB700_725.out _).trans (hHeld.1)))))), ((cell_far (p := ⟨gb725, _, none⟩) NB700_725.out _).trans (((cell_far (p := ⟨gb725, _, none⟩) NB700_725.out _).trans (((cell_far (p := ⟨gb725, _, none⟩) NB700_725.out _).trans (hHeld.2.1)))))), ((cell_far (p := ⟨gb725, _, none⟩) NB700_725.out _).trans (((cell_far (p := ⟨gb725, _, none⟩) NB700_725.out _).trans (((cell_far (p := ⟨gb725, _, none⟩) NB700_725.out _).trans (hHeld.2.2.1)))))), ((cell_far (p := ⟨gb725, _, none⟩) NB700_725.out _).trans (((cell_far (p := ⟨gb725, _, none⟩) NB700_725.out _).trans (((cell_far (p := ⟨gb725, _, none⟩) NB700_725.out _).trans (hHeld.2.2.2.1)))))), ((cell_far (p := ⟨gb725, _, none⟩) NB701_725.out _).trans (((cell_far (p := ⟨gb725, _, none⟩) NB701_725.out _).trans (((cell_far (p := ⟨gb725, _, none⟩) NB701_725.out _).trans (hHeld.2.2.2.2.1)))))), ((cell_far (p := ⟨gb725, _, none⟩) NB701_725.out _).trans (((cell_far (p := ⟨gb725, _, none⟩) NB701_725.out _).trans (((cell_far (p := ⟨gb725, _, none⟩) NB701_725.out _).trans (hHeld.2.2.2.2.2.1)))))), ((cell_far (p := ⟨gb725, _, none⟩) NB701_725.out _).trans (((cell_far (p := ⟨gb725, _, none⟩) NB701_725.out _).trans (((cell_far (p := ⟨gb725, _, none⟩) NB701_725.out _).trans (hHeld.2.2.2.2.2.2))))))⟩ (fun hHeld => ?_)
      clear hK K
      refine pure_ (i := 11) (N := some 10) (v := ?_) (a' := ?_) #[true, true, true, true, true, true, true, true, true, true, true, true] rfl rfl (any_of HT_.out (by kernel_rfl)) (fun _ _ _ h => h) (Or.inl ⟨by rfl, ?_⟩) ?_ ?_
      rotate_left
      · intro w'
        go_simp
        with_reducible rfl
      rotate_left
      · simp only [Act.put, List.setIfInBounds_toArray, List.set_cons_zero, List.set_cons_succ, i64_w, i32_w]
        rfl
      refine done_ (done_of HT_.out (by kernel_rfl)) ?_
      have hnb34 := NB725_700.out
      have hnc34 := NB700_725.out
      have hnb35 := NB725_701.out
      have hnc35 := NB701_725.out
      have hnb36 := NB725_713.out
      have hnc36 := NB713_725.out
      have hcz37_0 : w30.cell? ⟨gb725, 0, none⟩ = some (.int .i64 0) := (blk_cell BK725.out 0).trans rfl
      have hcz37_1 : w30.cell? ⟨gb725, 1, none⟩ = some (.int .i64 0) := (blk_cell BK725.out 1).trans rfl
      have hcz37_2 : w30.cell? ⟨gb725, 2, none⟩ = some (.int .i64 0) := (blk_cell BK725.out 2).trans rfl
      have hfz37_0 := blk_frozen BK725.out 0
      have hfz37_1 := blk_frozen BK725.out 1
      have hfz37_2 := blk_frozen BK725.out 2
      have hnb38 := NB713_700.out
      have hnc38 := NB700_713.out
      have hnb39 := NB713_701.out
      have hnc39 := NB701_713.out
      have hcz40_0 : w30.cell? ⟨gb713, 0, none⟩ = some (.int .i64 t709) := (blk_cell BK713.out 0).trans rfl
      have hcz40_1 : w30.cell? ⟨gb713, 1, none⟩ = some (.int .i64 t710) := (blk_cell BK713.out 1).trans rfl
      have hcz40_2 : w30.cell? ⟨gb713, 2, none⟩ = some (.int .i64 t711) := (blk_cell BK713.out 2).trans rfl
      have hfz40_0 := blk_frozen BK713.out 0
      have hfz40_1 := blk_frozen BK713.out 1
      have hfz40_2 := blk_frozen BK713.out 2
      try go_wp2_with (first | ((with_reducible refine gate_callee (f := 43) rfl ?_); refine goesL_ (some 31) rfl rfl Try.func43 (by kernel_rfl) rfl #[.agg #[.int .i64 t721, .int .i64 t722, .int .i64 t723], .agg #[.int .i64 t709, .int .i64 t710, .int .i64 t711]] rfl (by (try simp only [List.map_toArray, List.map_cons, List.map_nil]); first | done | rfl | (simp only [List.length_drop, List.length_take]; rfl)) ?_; (with_reducible refine (laws_eqBall.calls t721 t722 t723 t709 t710 t711 true _ A10.out).mono ?_); rintro e w41 ⟨rfl, hb⟩; refine ⟨_, rfl, ?_⟩; have n0_ := Aside0.mk (blk_below (g := gb700) (o := .cells #[.int .i64 a1_0, .int .i64 a1_1, .int .i64 a1_2, .int .i64 a1_3] 23 (0, 0)) (by (with_reducible repeat (first | refine blk_drewN ?_ _ | refine blk_drew ?_ | refine blk_alloc ?_ _)); refine blk_far ?_ NB700_725.out _; (with_reducible repeat (first | refine blk_drewN ?_ _ | refine blk_drew ?_ | refine blk_alloc ?_ _)); refine blk_far ?_ NB700_725.out _; (with_reducible repeat (first | refine blk_drewN ?_ _ | refine blk_drew ?_ | refine blk_alloc ?_ _)); refine blk_far ?_ NB700_725.out _; (with_reducible repeat (first | refine blk_drewN ?_ _ | refine blk_drew ?_ | refine blk_alloc ?_ _)); exact BK700.out) hb); have n1_ := Aside0.mk (blk_below (g := gb701) (o := .cells #[.int .i64 a2_0, .int .i64 a2_1, .int .i64 a2_2] 54 (0, 0)) (by (with_reducible repeat (first | refine blk_drewN ?_ _ | refine blk_drew ?_ | refine blk_alloc ?_ _)); refine blk_far ?_ NB701_725.out _; (with_reducible repeat (first | refine blk_drewN ?_ _ | refine blk_drew ?_ | refine blk_alloc ?_ _)); refine blk_far ?_ NB701_725.out _; (with_reducible repeat (first | refine blk_drewN ?_ _ | refine blk_drew ?_ | refine blk_alloc ?_ _)); refine blk_far ?_ NB701_725.out _; (with_reducible repeat (first | refine blk_drewN ?_ _ | refine blk_drew ?_ | refine blk_alloc ?_ _)); exact BK701.out) hb); have n2_ := Aside0.mk (blk_below (g := gb713) (o := .cells #[.int .i64 t709, .int .i64 t710, .int .i64 t711] 55 (0, 0)) (by (with_reducible repeat (first | refine blk_drewN ?_ _ | refine blk_drew ?_ | refine blk_alloc ?_ _)); refine blk_far ?_ NB713_725.out _; (with_reducible repeat (first | refine blk_drewN ?_ _ | refine blk_drew ?_ | refine blk_alloc ?_ _)); refine blk_far ?_ NB713_725.out _; (with_reducible repeat (first | refine blk_drewN ?_ _ | refine blk_drew ?_ | refine blk_alloc ?_ _)); refine blk_far ?_ NB713_725.out _; (with_reducible repeat (first | refine blk_drewN ?_ _ | refine blk_drew ?_ | refine blk_alloc ?_ _)); exact BK713.out) hb); have n3_ := Aside0.mk (blk_below (g := gb725) (o := .cells #[.int .i64 t721, .int .i64 t722, .int .i64 t723] 55 (0, 0)) (by (with_reducible repeat (first | refine blk_drewN ?_ _ | refine blk_drew ?_ | refine blk_alloc ?_ _)); refine blk_put (cs := #[.int .i64 t721, .int .i64 t722, .int .i64 0]) ?_ 2 _ rfl; (with_reducible repeat (first | refine blk_drewN ?_ _ | refine blk_drew ?_ | refine blk_alloc ?_ _)); refine blk_put (cs := #[.int .i64 t721, .int .i64 0, .int .i64 0]) ?_ 1 _ rfl; (with_reducible repeat (first | refine blk_drewN ?_ _ | refine blk_drew ?_ | refine blk_alloc ?_ _)); refine blk_put (cs := #[.int .i64 0, .int .i64 0, .int .i64 0]) ?_ 0 _ rfl; (with_reducible repeat (first | refine blk_drewN ?_ _ | refine blk_drew ?_ | refine blk_alloc ?_ _)); exact BK725.out) hb); have n4_ := Aside0.mk (below_step blA hb); clear BK700; clear BK701; clear BK713; clear BK725; clear HB; have BK700 := n0_; have BK701 := n1_; have BK713 := n2_; have BK725 := n3_; have HB := n4_; clear n0_ n1_ n2_ n3_ n4_; (try clear hb); (try clear hb2); (try clear hk); (try clear hi)))
      go_ret
      exact ⟨by first | rfl | (simp [errW_none, errW_some] <;> rfl) | (simp [*, errW_none, errW_some] <;> rfl), blA⟩
    · rw [if_neg c12] at H
      exact absurd H (by simp)
  · replace c11 := Bool.eq_false_iff.mpr c11
    subst c11
    have H1 : (none) = some r := by rw [if_neg (show ¬ (false = true) by decide)] at H; exact H
    clear H
    have H := H1
    clear H1
    exact absurd H (by simp)
end Go.Proofs.Ytmhajnfdbjnegaa.PAll
