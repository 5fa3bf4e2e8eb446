-- turned for this claim out of the kit's print: the same functions, packed anew
import Derived.Test.YtmhajnfdbjnegaaQx
import Derived.Test.YtmhajnfdbjnegaaQimplIsMatrix
import Derived.Test.YtmhajnfdbjnegaaQimplMoveEnd
import Derived.Test.YtmhajnfdbjnegaaQspecl04End
namespace Go.Proofs.Ytmhajnfdbjnegaa.PAll
open Go.RowKit Go.Proofs.YtmhajnfdbjnegaaW.PrintWords Go.Proofs.YtmhajnfdbjnegaaW.PrintLast Go.Proofs.YtmhajnfdbjnegaaW.PrintMore
attribute [local go_sem] Go.Proofs.Ytmhajnfdbjnegaa.Aux.setCell_drewN Go.Proofs.Ytmhajnfdbjnegaa.Aux.isSome_setCell max2_int min2_int max_two min_two max_three min_three max_four min_four   -- for this text's walks alone
set_option linter.unusedVariables false
set_option linter.unusedSimpArgs false
/-! ### laws_FnExactMoveEnd: function 9 -/
def laws_FnExactMoveEnd.f (k : Nat) (a0_0 : Int) (a0_1 : Int) (a0_2 : Int) (a0_3 : Int) (a1_0 : Int) (a1_1 : Int) : Option (Bool) := (laws_toMatrix.f a0_0 a0_1 a0_2 a0_3).bind fun bt420 => ((laws_toEnd.f a1_0 a1_1).bind fun bt424 => ((spec_MoveEnd.f k bt420.1 bt420.2.1 bt420.2.2.1 bt420.2.2.2 bt424.1 bt424.2).bind fun bt426 => ((laws_toMatrix.f a0_0 a0_1 a0_2 a0_3).bind fun bt430 => ((laws_toEnd.f a1_0 a1_1).bind fun bt434 => ((impl_MoveEnd.f k bt430.1 bt430.2.1 bt430.2.2.1 bt430.2.2.2 bt434.1 bt434.2).bind fun bt436 => ((laws_eqEnd.f bt436.1 bt436.2.1 bt426.1 bt426.2.1).bind fun t440 => (if t440 = true then (if bt436.2.2 = bt426.2.2 then (some true) else (none)) else (none))))))))
theorem laws_FnExactMoveEnd.mono : ∀ a0 a1 a2 a3 a4 a5 k, LeO (laws_FnExactMoveEnd.f k a0 a1 a2 a3 a4 a5) (laws_FnExactMoveEnd.f (k + 1) a0 a1 a2 a3 a4 a5) := by
  intro a0 a1 a2 a3 a4 a5 k
  unfold laws_FnExactMoveEnd.f
  repeat' first
      | (with_reducible exact impl_MoveEnd.mono _ _ _ _ _ _ _)
      | (with_reducible exact spec_MoveEnd.mono _ _ _ _ _ _ _)
      | (with_reducible exact LeO.refl _)
      | (with_reducible exact LeO.none _)
      | (with_reducible refine LeO.ite ?_ ?_)
      | (with_reducible refine LeO.bind ?_ (fun _ => ?_))
      | exact impl_MoveEnd.mono _ _ _ _ _ _ _
      | exact spec_MoveEnd.mono _ _ _ _ _ _ _
      | exact LeO.none _
      | refine LeO.ite ?_ ?_
      | refine LeO.bind ?_ (fun _ => ?_)
def laws_FnExactMoveEnd.T1 : Bool × List (List Nat × List Nat) := (true, [([], []), ([0], [0]), ([], []), ([2, 1], [2]), ([1, 3, 3], [1, 3]), ([4], [4]), ([5], [5]), ([5], [5]), ([], []), ([8, 6, 4, 0, 1, 2, 3, 4, 5, 6, 8], [6, 8]), ([7, 9, 0, 1, 2, 3, 4, 5, 6, 7, 8, 9], [7])])
def laws_FnExactMoveEnd.B1 : List Nat := [0, 1, 0, 7, 15, 31, 63, 63, 0, 383, 1023]
theorem laws_FnExactMoveEnd.tab1 : rtab .any (opsOf Try.f9 1) = laws_FnExactMoveEnd.T1 := by kernel_rfl
theorem laws_FnExactMoveEnd.bits1 : waitsOk laws_FnExactMoveEnd.T1.2 laws_FnExactMoveEnd.B1 = true := by kernel_rfl
def laws_FnExactMoveEnd.T2 : Bool × List (List Nat × List Nat) := (true, [([], []), ([0], [0]), ([], []), ([2, 1], [2]), ([1, 3, 3], [1, 3]), ([4], [4]), ([5], [5]), ([5], [5]), ([], []), ([8, 6, 4, 0, 1, 2, 3, 4, 5, 6, 8], [6, 8]), ([7, 9, 0, 1, 2, 3, 4, 5, 6, 7, 8, 9], [7])])
def laws_FnExactMoveEnd.B2 : List Nat := [0, 1, 0, 7, 15, 31, 63, 63, 0, 383, 1023]
theorem laws_FnExactMoveEnd.tab2 : rtab .any (opsOf Try.f9 2) = laws_FnExactMoveEnd.T2 := by kernel_rfl
theorem laws_FnExactMoveEnd.bits2 : waitsOk laws_FnExactMoveEnd.T2.2 laws_FnExactMoveEnd.B2 = true := by kernel_rfl
set_option maxHeartbeats 8000000 in
set_option maxRecDepth 100000 in
theorem laws_FnExactMoveEnd.calls (k : Nat) (a0_0 : Int) (a0_1 : Int) (a0_2 : Int) (a0_3 : Int) (a1_0 : Int) (a1_1 : Int) (r : Bool) (w : World) (h : laws_FnExactMoveEnd.f k a0_0 a0_1 a0_2 a0_3 a1_0 a1_1 = some r) :
    Calls Try.prog 9 #[.agg #[.int .i64 a0_0, .int .i64 a0_1, .int .i64 a0_2, .int .i64 a0_3], .agg #[.int .i64 a1_0, .int .i64 a1_1]] w fun e w' => e = .returned (.bool r) ∧ Below w.heap.size w w' := by
  have hu23 := Try.underlying23
  have hu38 := Try.underlying38
  have hu39 := Try.underlying39
  have HB := Aside0.mk (Below.refl w.heap.size w)
  have H : ((laws_toMatrix.f a0_0 a0_1 a0_2 a0_3).bind fun bt420 => ((laws_toEnd.f a1_0 a1_1).bind fun bt424 => ((spec_MoveEnd.f k bt420.1 bt420.2.1 bt420.2.2.1 bt420.2.2.2 bt424.1 bt424.2).bind fun bt426 => ((laws_toMatrix.f a0_0 a0_1 a0_2 a0_3).bind fun bt430 => ((laws_toEnd.f a1_0 a1_1).bind fun bt434 => ((impl_MoveEnd.f k bt430.1 bt430.2.1 bt430.2.2.1 bt430.2.2.2 bt434.1 bt434.2).bind fun bt436 => ((laws_eqEnd.f bt436.1 bt436.2.1 bt426.1 bt426.2.1).bind fun t440 => (if t440 = true then (if bt436.2.2 = bt426.2.2 then (some true) else (none)) else (none))))))))) = some r := h
  clear h
  replace H := Option.bind_eq_some_iff.mp H
  obtain ⟨⟨t420, t421, t422, t423⟩, A30, H⟩ := H
  replace H : ((laws_toEnd.f a1_0 a1_1).bind fun bt424 => ((spec_MoveEnd.f k t420 t421 t422 t423 bt424.1 bt424.2).bind fun bt426 => ((laws_toMatrix.f a0_0 a0_1 a0_2 a0_3).bind fun bt430 => ((laws_toEnd.f a1_0 a1_1).bind fun bt434 => ((impl_MoveEnd.f k bt430.1 bt430.2.1 bt430.2.2.1 bt430.2.2.2 bt434.1 bt434.2).bind fun bt436 => ((laws_eqEnd.f bt436.1 bt436.2.1 bt426.1 bt426.2.1).bind fun t440 => (if t440 = true then (if bt436.2.2 = bt426.2.2 then (some true) else (none)) else (none)))))))) = some r := H
  have A3 := Aside0.mk A30
  clear A30
  replace H := Option.bind_eq_some_iff.mp H
  obtain ⟨⟨t424, t425⟩, A40, H⟩ := H
  replace H : ((spec_MoveEnd.f k t420 t421 t422 t423 t424 t425).bind fun bt426 => ((laws_toMatrix.f a0_0 a0_1 a0_2 a0_3).bind fun bt430 => ((laws_toEnd.f a1_0 a1_1).bind fun bt434 => ((impl_MoveEnd.f k bt430.1 bt430.2.1 bt430.2.2.1 bt430.2.2.2 bt434.1 bt434.2).bind fun bt436 => ((laws_eqEnd.f bt436.1 bt436.2.1 bt426.1 bt426.2.1).bind fun t440 => (if t440 = true then (if bt436.2.2 = bt426.2.2 then (some true) else (none)) else (none))))))) = some r := H
  have A4 := Aside0.mk A40
  clear A40
  replace H := Option.bind_eq_some_iff.mp H
  obtain ⟨⟨t426, t427, t428⟩, A50, H⟩ := H
  replace H : ((laws_toMatrix.f a0_0 a0_1 a0_2 a0_3).bind fun bt430 => ((laws_toEnd.f a1_0 a1_1).bind fun bt434 => ((impl_MoveEnd.f k bt430.1 bt430.2.1 bt430.2.2.1 bt430.2.2.2 bt434.1 bt434.2).bind fun bt436 => ((laws_eqEnd.f bt436.1 bt436.2.1 t426 t427).bind fun t440 => (if t440 = true then (if bt436.2.2 = t428 then (some true) else (none)) else (none)))))) = some r := H
  have A5 := Aside0.mk A50
  clear A50
  replace H := Option.bind_eq_some_iff.mp H
  obtain ⟨⟨t430, t431, t432, t433⟩, A60, H⟩ := H
  replace H : ((laws_toEnd.f a1_0 a1_1).bind fun bt434 => ((impl_MoveEnd.f k t430 t431 t432 t433 bt434.1 bt434.2).bind fun bt436 => ((laws_eqEnd.f bt436.1 bt436.2.1 t426 t427).bind fun t440 => (if t440 = true then (if bt436.2.2 = t428 then (some true) else (none)) else (none))))) = some r := H
  have A6 := Aside0.mk A60
  clear A60
  replace H := Option.bind_eq_some_iff.mp H
  obtain ⟨⟨t434, t435⟩, A70, H⟩ := H
  replace H : ((impl_MoveEnd.f k t430 t431 t432 t433 t434 t435).bind fun bt436 => ((laws_eqEnd.f bt436.1 bt436.2.1 t426 t427).bind fun t440 => (if t440 = true then (if bt436.2.2 = t428 then (some true) else (none)) else (none)))) = some r := H
  have A7 := Aside0.mk A70
  clear A70
  replace H := Option.bind_eq_some_iff.mp H
  obtain ⟨⟨t436, t437, t438⟩, A80, H⟩ := H
  replace H : ((laws_eqEnd.f t436 t437 t426 t427).bind fun t440 => (if t440 = true then (if t438 = t428 then (some true) else (none)) else (none))) = some r := H
  have A8 := Aside0.mk A80
  clear A80
  replace H := Option.bind_eq_some_iff.mp H
  obtain ⟨t440, A90, H⟩ := H
  replace H : (if t440 = true then (if t438 = t428 then (some true) else (none)) else (none)) = some r := H
  have A9 := Aside0.mk A90
  clear A90
  by_cases c10 : t440 = true
  · subst c10
    have H1 : (if t438 = t428 then (some true) else (none)) = some r := by rw [if_pos rfl] at H; exact H
    clear H
    have H := H1
    clear H1
    by_cases c11 : t438 = t428
    · rw [if_pos c11] at H
      have c11b0 : (t438 == t428) = true := beq_iff_eq.mpr c11
      have c11b1 : (t438 != t428) = false := bne_eq_false_iff_eq.mpr c11
      clear c11
      obtain rfl := Option.some.inj H
      go_enter Try.func9, Try.ntmps9
      try go_wp2_with (first | ((with_reducible refine gate_dst (N := 2) rfl ?_); refine box_event ?hg (N := 2) ?hd (cs := #[.int .i64 a0_0, .int .i64 a0_1, .int .i64 a0_2, .int .i64 a0_3]) (t := 23) ?hr ?_; (case hd => rfl); (case hg => rfl); (case hr => first | (go_simp; done) | (go_simp; rfl)); intro gb418 hg w12 hbox hb; have n0_ := Aside0.mk (below_step blA hb); have n1_ := Aside0.mk (hbox); have n2_ := Aside0.mk (szA hg blA); have n3_ := Aside0.mk (szA hg blA); clear HB; have HB := n0_; have BK418 := n1_; have GW418 := n2_; have GE418 := n3_; clear n0_ n1_ n2_ n3_; clear hb hbox hg) | ((with_reducible refine gate_dst (N := 3) rfl ?_); refine box_event ?hg (N := 3) ?hd (cs := #[.int .i64 a1_0, .int .i64 a1_1]) (t := 38) ?hr ?_; (case hd => rfl); (case hg => rfl); (case hr => first | (go_simp; done) | (go_simp; rfl)); intro gb419 hg w13 hbox hb; have n0_ := Aside0.mk (blk_below (bkA BK418) hb); have n1_ := Aside0.mk (below_step blA hb); have n2_ := Aside0.mk (hbox); have n3_ := Aside0.mk (szA hg blA); have n4_ := Aside0.mk (szA hg blA); have n5_ := Aside0.mk (neA hg (bkA BK418)); have n6_ := Aside0.mk (neB hg (bkA BK418)); clear BK418; clear HB; have BK418 := n0_; have HB := n1_; have BK419 := n2_; have GW419 := n3_; have GE419 := n4_; have NB418_419 := n5_; have NB419_418 := n6_; clear n0_ n1_ n2_ n3_ n4_ n5_ n6_; clear hb hbox hg))
      have n0_ := Aside0.mk (blk_drew BK418.out)
      have n1_ := Aside0.mk (blk_drew BK419.out)
      have n2_ := Aside0.mk (below_drew1 HB.out)
      clear BK418
      clear BK419
      clear HB
      have BK418 := n0_
      have BK419 := n1_
      have HB := n2_
      clear n0_ n1_ n2_
      refine start_ (n := 11) (S := fun w' => w'.cell? ⟨gb418, 0, none⟩ = some (.int .i64 a0_0) ∧ w'.cell? ⟨gb418, 1, none⟩ = some (.int .i64 a0_1) ∧ w'.cell? ⟨gb418, 2, none⟩ = some (.int .i64 a0_2) ∧ w'.cell? ⟨gb418, 3, none⟩ = some (.int .i64 a0_3) ∧ w'.cell? ⟨gb419, 0, none⟩ = some (.int .i64 a1_0) ∧ w'.cell? ⟨gb419, 1, none⟩ = some (.int .i64 a1_1)) (ds := []) #[false, false, false, false, false, false, false, false, false, false, false] (by kernel_rfl) rfl rfl ⟨(blk_cell BK418.out 0).trans rfl, (blk_cell BK418.out 1).trans rfl, (blk_cell BK418.out 2).trans rfl, (blk_cell BK418.out 3).trans rfl, (blk_cell BK419.out 0).trans rfl, (blk_cell BK419.out 1).trans rfl⟩ (fun hHeld => ?_); refine with_tabW laws_FnExactMoveEnd.tab1 laws_FnExactMoveEnd.bits1 (fun HT_ HW_ => ?_)
      generalize w13.drew = w14 at BK418 BK419 HB hHeld ⊢
      refine take_ (i := 0) (N := some 10) (v := ?_) (a' := ?_) #[true, false, false, false, false, false, false, false, false, false, false] rfl rfl (take_ofW HT_.out HW_.out (by kernel_rfl)) (fun _ _ _ h => h) (Or.inl ⟨by rfl, ?_⟩) hHeld ?_ ?_
      rotate_left
      · rintro w' ⟨s0, s1, s2, s3, s4, s5⟩
        go_simp
        with_reducible rfl
      rotate_left
      · simp only [Act.put, List.setIfInBounds_toArray, List.set_cons_zero, List.set_cons_succ, i64_w, i32_w]
        rfl
      refine take_ (i := 2) (N := some 12) (v := ?_) (a' := ?_) #[true, false, true, false, false, false, false, false, false, false, false] rfl rfl (take_ofW HT_.out HW_.out (by kernel_rfl)) (fun _ _ _ h => h) (Or.inl ⟨by rfl, ?_⟩) hHeld ?_ ?_
      rotate_left
      · rintro w' ⟨s0, s1, s2, s3, s4, s5⟩
        go_simp
        with_reducible rfl
      rotate_left
      · simp only [Act.put, List.setIfInBounds_toArray, List.set_cons_zero, List.set_cons_succ, i64_w, i32_w]
        rfl
      refine join_ (σ := Nat) 2 #[true, true, true, true, true, true, true, true, true, false, false] (fun s_ => [(11, .agg #[.int .i64 t420, .int .i64 t421, .int .i64 t422, .int .i64 t423]), (13, .agg #[.int .i64 t424, .int .i64 t425]), (14, .tuple #[.agg #[.int .i64 t426, .int .i64 t427], .int .i64 t428]), (5, .pointer (some ⟨s_, 0, none⟩)), (9, .tuple #[.agg #[.int .i64 t426, .int .i64 t427], .int .i64 t428]), (15, .agg #[.int .i64 t426, .int .i64 t427]), (16, .int .i64 t428)]) (fun s_ w' => (w'.cell? ⟨gb418, 0, none⟩ = some (.int .i64 a0_0) ∧ w'.cell? ⟨gb418, 1, none⟩ = some (.int .i64 a0_1) ∧ w'.cell? ⟨gb418, 2, none⟩ = some (.int .i64 a0_2) ∧ w'.cell? ⟨gb418, 3, none⟩ = some (.int .i64 a0_3) ∧ w'.cell? ⟨gb419, 0, none⟩ = some (.int .i64 a1_0) ∧ w'.cell? ⟨gb419, 1, none⟩ = some (.int .i64 a1_1)) ∧ (w'.heap[gb418]? = some (.cells #[.int .i64 a0_0, .int .i64 a0_1, .int .i64 a0_2, .int .i64 a0_3] 23 (0, 0))) ∧ (w'.heap[gb419]? = some (.cells #[.int .i64 a1_0, .int .i64 a1_1] 38 (0, 0))) ∧ (w'.heap[s_]? = some (.cells #[.int .i64 0, .int .i64 0] 39 (0, 0))) ∧ (w.heap.size ≤ s_) ∧ (w.heap.size ≤ s_) ∧ (gb418 ≠ s_) ∧ (s_ ≠ gb418) ∧ (gb419 ≠ s_) ∧ (s_ ≠ gb419) ∧ (Below w.heap.size w w')) ?_ ?_
      rotate_left
      · intro hCont
        refine two_ (i := 1) (j := 8) (Ni := some 11) (Nj := some 5) #[true, true, true, false, false, false, false, false, false, false, false] #[true, false, true, false, false, false, false, false, true, false, false] rfl rfl rfl rfl (two_of HT_.out (by kernel_rfl)) (by decide) (by decide) (fun K hK => ?_) (fun K hK => ?_)
        · skip
          refine goes_ Try.func16 (by kernel_rfl) rfl #[.agg #[.int .i64 a0_0, .int .i64 a0_1, .int .i64 a0_2, .int .i64 a0_3]] (by rfl) rfl rfl (by (try simp only [List.map_toArray, List.map_cons, List.map_nil]); first | done | rfl | (simp only [List.length_drop, List.length_take]; rfl)) ?_
          with_reducible refine (laws_toMatrix.calls a0_0 a0_1 a0_2 a0_3 t420 t421 t422 t423 _ A3.out).mono ?_
          rintro e w15 ⟨rfl, hb⟩
          refine ⟨_, rfl, ?_⟩
          have n0_ := Aside0.mk (blk_below (bkA BK418) hb)
          have n1_ := Aside0.mk (blk_below (bkA BK419) hb)
          have n2_ := Aside0.mk (below_step blA hb)
          clear BK418
          clear BK419
          clear HB
          have BK418 := n0_
          have BK419 := n1_
          have HB := n2_
          clear n0_ n1_ n2_
          (try clear hb)
          (try clear hb2)
          (try clear hk)
          (try clear hi)
          refine hK.out _ _ ⟨(blk_cell BK418.out 0).trans rfl, (blk_cell BK418.out 1).trans rfl, (blk_cell BK418.out 2).trans rfl, (blk_cell BK418.out 3).trans rfl, (blk_cell BK419.out 0).trans rfl, (blk_cell BK419.out 1).trans rfl⟩ (fun hHeld => ?_)
          clear hK K
          refine norm_ (a' := ?_) ?_ ?_
          rotate_left
          · show Act.put _ (some 11) _ = _
            simp only [Act.put, List.setIfInBounds_toArray, List.set_cons_zero, List.set_cons_succ, i64_w, i32_w]
            rfl
          refine two_ (i := 3) (j := 8) (Ni := some 13) (Nj := some 5) #[true, true, true, true, false, false, false, false, false, false, false] #[true, true, true, false, false, false, false, false, true, false, false] rfl rfl rfl rfl (two_of HT_.out (by kernel_rfl)) (by decide) (by decide) (fun K hK => ?_) (fun K hK => ?_)
          · skip
            refine goes_ Try.func30 (by kernel_rfl) rfl #[.agg #[.int .i64 a1_0, .int .i64 a1_1]] (by rfl) rfl rfl (by (try simp only [List.map_toArray, List.map_cons, List.map_nil]); first | done | rfl | (simp only [List.length_drop, List.length_take]; rfl)) ?_
            with_reducible refine (laws_toEnd.calls a1_0 a1_1 t424 t425 _ A4.out).mono ?_
            rintro e w16 ⟨rfl, hb⟩
            refine ⟨_, rfl, ?_⟩
            have n0_ := Aside0.mk (blk_below (bkA BK418) hb)
            have n1_ := Aside0.mk (blk_below (bkA BK419) hb)
            have n2_ := Aside0.mk (below_step blA hb)
            clear BK418
            clear BK419
            clear HB
            have BK418 := n0_
            have BK419 := n1_
            have HB := n2_
            clear n0_ n1_ n2_
            (try clear hb)
            (try clear hb2)
            (try clear hk)
            (try clear hi)
            refine hK.out _ _ ⟨(blk_cell BK418.out 0).trans rfl, (blk_cell BK418.out 1).trans rfl, (blk_cell BK418.out 2).trans rfl, (blk_cell BK418.out 3).trans rfl, (blk_cell BK419.out 0).trans rfl, (blk_cell BK419.out 1).trans rfl⟩ (fun hHeld => ?_)
            clear hK K
            refine norm_ (a' := ?_) ?_ ?_
            rotate_left
            · show Act.put _ (some 13) _ = _
              simp only [Act.put, List.setIfInBounds_toArray, List.set_cons_zero, List.set_cons_succ, i64_w, i32_w]
              rfl
            refine two_ (i := 4) (j := 8) (Ni := some 14) (Nj := some 5) #[true, true, true, true, true, false, false, false, false, false, false] #[true, true, true, true, false, false, false, false, true, false, false] rfl rfl rfl rfl (two_of HT_.out (by kernel_rfl)) (by decide) (by decide) (fun K hK => ?_) (fun K hK => ?_)
            · skip
              refine goes_ Try.func29 (by kernel_rfl) rfl #[.agg #[.int .i64 t420, .int .i64 t421, .int .i64 t422, .int .i64 t423], .agg #[.int .i64 t424, .int .i64 t425]] (by rfl) rfl rfl (by (try simp only [List.map_toArray, List.map_cons, List.map_nil]); first | done | rfl | (simp only [List.length_drop, List.length_take]; rfl)) ?_
              with_reducible refine (spec_MoveEnd.calls k t420 t421 t422 t423 t424 t425 t426 t427 t428 _ A5.out).mono ?_
              rintro e w17 ⟨rfl, hb⟩
              refine ⟨_, rfl, ?_⟩
              have n0_ := Aside0.mk (blk_below (bkA BK418) hb)
              have n1_ := Aside0.mk (blk_below (bkA BK419) hb)
              have n2_ := Aside0.mk (below_step blA hb)
              clear BK418
              clear BK419
              clear HB
              have BK418 := n0_
              have BK419 := n1_
              have HB := n2_
              clear n0_ n1_ n2_
              (try clear hb)
              (try clear hb2)
              (try clear hk)
              (try clear hi)
              refine hK.out _ _ ⟨(blk_cell BK418.out 0).trans rfl, (blk_cell BK418.out 1).trans rfl, (blk_cell BK418.out 2).trans rfl, (blk_cell BK418.out 3).trans rfl, (blk_cell BK419.out 0).trans rfl, (blk_cell BK419.out 1).trans rfl⟩ (fun hHeld => ?_)
              clear hK K
              refine norm_ (a' := ?_) ?_ ?_
              rotate_left
              · show Act.put _ (some 14) _ = _
                simp only [Act.put, List.setIfInBounds_toArray, List.set_cons_zero, List.set_cons_succ, i64_w, i32_w]
                rfl
              refine pure_ (i := 5) (N := some 9) (v := ?_) (a' := ?_) #[true, true, true, true, true, true, false, false, false, false, false] rfl rfl (any_of HT_.out (by kernel_rfl)) (fun _ _ _ h => h) (Or.inl ⟨by rfl, ?_⟩) ?_ ?_
              rotate_left
              · intro w'
                go_simp
                with_reducible rfl
              rotate_left
              · simp only [Act.put, List.setIfInBounds_toArray, List.set_cons_zero, List.set_cons_succ, i64_w, i32_w]
                rfl
              refine pure_ (i := 6) (N := some 15) (v := ?_) (a' := ?_) #[true, true, true, true, true, true, true, false, false, false, false] rfl rfl (any_of HT_.out (by kernel_rfl)) (fun _ _ _ h => h) (Or.inl ⟨by rfl, ?_⟩) ?_ ?_
              rotate_left
              · intro w'
                go_simp
                with_reducible rfl
              rotate_left
              · simp only [Act.put, List.setIfInBounds_toArray, List.set_cons_zero, List.set_cons_succ, i64_w, i32_w]
                rfl
              refine pure_ (i := 7) (N := some 16) (v := ?_) (a' := ?_) #[true, true, true, true, true, true, true, true, false, false, false] rfl rfl (any_of HT_.out (by kernel_rfl)) (fun _ _ _ h => h) (Or.inl ⟨by rfl, ?_⟩) ?_ ?_
              rotate_left
              · intro w'
                go_simp
                with_reducible rfl
              rotate_left
              · simp only [Act.put, List.setIfInBounds_toArray, List.set_cons_zero, List.set_cons_succ, i64_w, i32_w]
                rfl
              refine one_ (i := 8) (N := some 5) #[true, true, true, true, true, true, true, true, true, false, false] rfl rfl (one_of HT_.out (by kernel_rfl)) (by decide) (fun K hK => ?_)
              refine box_step ?hg (N := 5) ?hd (cs := #[.int .i64 0, .int .i64 0]) (t := 39) ?hr ?_; (case hd => rfl); (case hg => rfl); (case hr => first | (go_simp; done) | (go_simp; rfl))
              intro gb429 hg w18 hbox hb
              have n0_ := Aside0.mk (blk_below (bkA BK418) hb)
              have n1_ := Aside0.mk (blk_below (bkA BK419) hb)
              have n2_ := Aside0.mk (below_step blA hb)
              have n3_ := Aside0.mk (hbox)
              have n4_ := Aside0.mk (szA hg blA)
              have n5_ := Aside0.mk (szA hg blA)
              have n6_ := Aside0.mk (neA hg (bkA BK418))
              have n7_ := Aside0.mk (neB hg (bkA BK418))
              have n8_ := Aside0.mk (neA hg (bkA BK419))
              have n9_ := Aside0.mk (neB hg (bkA BK419))
              clear BK418
              clear BK419
              clear HB
              have BK418 := n0_
              have BK419 := n1_
              have HB := n2_
              have BK429 := n3_
              have GW429 := n4_
              have GE429 := n5_
              have NB418_429 := n6_
              have NB429_418 := n7_
              have NB419_429 := n8_
              have NB429_419 := n9_
              clear n0_ n1_ n2_ n3_ n4_ n5_ n6_ n7_ n8_ n9_
              clear hb hbox hg
              refine hK.out _ _ ⟨(blk_cell BK418.out 0).trans rfl, (blk_cell BK418.out 1).trans rfl, (blk_cell BK418.out 2).trans rfl, (blk_cell BK418.out 3).trans rfl, (blk_cell BK419.out 0).trans rfl, (blk_cell BK419.out 1).trans rfl⟩ (fun hHeld => ?_)
              clear hK K
              refine norm_ (a' := ?_) ?_ ?_
              rotate_left
              · show Act.put _ (some 5) _ = _
                simp only [Act.put, List.setIfInBounds_toArray, List.set_cons_zero, List.set_cons_succ, i64_w, i32_w]
                rfl
              exact norm_ (by simp only [putAll, Act.put, List.setIfInBounds_toArray, List.set_cons_zero, List.set_cons_succ]) (hCont (gb429) _ ⟨hHeld, (bkA BK418), (bkA BK419), (bkA BK429), GW429.out, GE429.out, NB418_429.out, NB429_418.out, NB419_429.out, NB429_419.out, blA⟩)
            · skip
              refine box_step ?hg (N := 5) ?hd (cs := #[.int .i64 0, .int .i64 0]) (t := 39) ?hr ?_; (case hd => rfl); (case hg => rfl); (case hr => first | (go_simp; done) | (go_simp; rfl))
              intro gb429 hg w17 hbox hb
              have n0_ := Aside0.mk (blk_below (bkA BK418) hb)
              have n1_ := Aside0.mk (blk_below (bkA BK419) hb)
              have n2_ := Aside0.mk (below_step blA hb)
              have n3_ := Aside0.mk (hbox)
              have n4_ := Aside0.mk (szA hg blA)
              have n5_ := Aside0.mk (szA hg blA)
              have n6_ := Aside0.mk (neA hg (bkA BK418))
              have n7_ := Aside0.mk (neB hg (bkA BK418))
              have n8_ := Aside0.mk (neA hg (bkA BK419))
              have n9_ := Aside0.mk (neB hg (bkA BK419))
              clear BK418
              clear BK419
              clear HB
              have BK418 := n0_
              have BK419 := n1_
              have HB := n2_
              have BK429 := n3_
              have GW429 := n4_
              have GE429 := n5_
              have NB418_429 := n6_
              have NB429_418 := n7_
              have NB419_429 := n8_
              have NB429_419 := n9_
              clear n0_ n1_ n2_ n3_ n4_ n5_ n6_ n7_ n8_ n9_
              clear hb hbox hg
              refine hK.out _ _ ⟨(blk_cell BK418.out 0).trans rfl, (blk_cell BK418.out 1).trans rfl, (blk_cell BK418.out 2).trans rfl, (blk_cell BK418.out 3).trans rfl, (blk_cell BK419.out 0).trans rfl, (blk_cell BK419.out 1).trans rfl⟩ (fun hHeld => ?_)
              clear hK K
              refine norm_ (a' := ?_) ?_ ?_
              rotate_left
              · show Act.put _ (some 5) _ = _
                simp only [Act.put, List.setIfInBounds_toArray, List.set_cons_zero, List.set_cons_succ, i64_w, i32_w]
                rfl
              refine one_ (i := 4) (N := some 14) #[true, true, true, true, true, false, false, false, true, false, false] rfl rfl (one_of HT_.out (by kernel_rfl)) (by decide) (fun K hK => ?_)
              refine goes_ Try.func29 (by kernel_rfl) rfl #[.agg #[.int .i64 t420, .int .i64 t421, .int .i64 t422, .int .i64 t423], .agg #[.int .i64 t424, .int .i64 t425]] (by rfl) rfl rfl (by (try simp only [List.map_toArray, List.map_cons, List.map_nil]); first | done | rfl | (simp only [List.length_drop, List.length_take]; rfl)) ?_
              with_reducible refine (spec_MoveEnd.calls k t420 t421 t422 t423 t424 t425 t426 t427 t428 _ A5.out).mono ?_
              rintro e w18 ⟨rfl, hb⟩
              refine ⟨_, rfl, ?_⟩
              have n0_ := Aside0.mk (blk_below (bkA BK418) hb)
              have n1_ := Aside0.mk (blk_below (bkA BK419) hb)
              have n2_ := Aside0.mk (blk_below (bkA BK429) hb)
              have n3_ := Aside0.mk (below_step blA hb)
              clear BK418
              clear BK419
              clear BK429
              clear HB
              have BK418 := n0_
              have BK419 := n1_
              have BK429 := n2_
              have HB := n3_
              clear n0_ n1_ n2_ n3_
              (try clear hb)
              (try clear hb2)
              (try clear hk)
              (try clear hi)
              refine hK.out _ _ ⟨(blk_cell BK418.out 0).trans rfl, (blk_cell BK418.out 1).trans rfl, (blk_cell BK418.out 2).trans rfl, (blk_cell BK418.out 3).trans rfl, (blk_cell BK419.out 0).trans rfl, (blk_cell BK419.out 1).trans rfl⟩ (fun hHeld => ?_)
              clear hK K
              refine norm_ (a' := ?_) ?_ ?_
              rotate_left
              · show Act.put _ (some 14) _ = _
                simp only [Act.put, List.setIfInBounds_toArray, List.set_cons_zero, List.set_cons_succ, i64_w, i32_w]
                rfl
              refine pure_ (i := 5) (N := some 9) (v := ?_) (a' := ?_) #[true, true, true, true, true, true, false, false, true, false, false] rfl rfl (any_of HT_.out (by kernel_rfl)) (fun _ _ _ h => h) (Or.inl ⟨by rfl, ?_⟩) ?_ ?_
              rotate_left
              · intro w'
                go_simp
                with_reducible rfl
              rotate_left
              · simp only [Act.put, List.setIfInBounds_toArray, List.set_cons_zero, List.set_cons_succ, i64_w, i32_w]
                rfl
              refine pure_ (i := 6) (N := some 15) (v := ?_) (a' := ?_) #[true, true, true, true, true, true, true, false, true, false, false] rfl rfl (any_of HT_.out (by kernel_rfl)) (fun _ _ _ h => h) (Or.inl ⟨by rfl, ?_⟩) ?_ ?_
              rotate_left
              · intro w'
                go_simp
                with_reducible rfl
              rotate_left
              · simp only [Act.put, List.setIfInBounds_toArray, List.set_cons_zero, List.set_cons_succ, i64_w, i32_w]
                rfl
              refine pure_ (i := 7) (N := some 16) (v := ?_) (a' := ?_) #[true, true, true, true, true, true, true, true, true, false, false] rfl rfl (any_of HT_.out (by kernel_rfl)) (fun _ _ _ h => h) (Or.inl ⟨by rfl, ?_⟩) ?_ ?_
              rotate_left
              · intro w'
                go_simp
                with_reducible rfl
              rotate_left
              · simp only [Act.put, List.setIfInBounds_toArray, List.set_cons_zero, List.set_cons_succ, i64_w, i32_w]
                rfl
              exact norm_ (by simp only [putAll, Act.put, List.setIfInBounds_toArray, List.set_cons_zero, List.set_cons_succ]) (hCont (gb429) _ ⟨hHeld, (bkA BK418), (bkA BK419), (bkA BK429), GW429.out, GE429.out, NB418_429.out, NB429_418.out, NB419_429.out, NB429_419.out, blA⟩)
          · skip
            refine box_step ?hg (N := 5) ?hd (cs := #[.int .i64 0, .int .i64 0]) (t := 39) ?hr ?_; (case hd => rfl); (case hg => rfl); (case hr => first | (go_simp; done) | (go_simp; rfl))
            intro gb429 hg w16 hbox hb
            have n0_ := Aside0.mk (blk_below (bkA BK418) hb)
            have n1_ := Aside0.mk (blk_below (bkA BK419) hb)
            have n2_ := Aside0.mk (below_step blA hb)
            have n3_ := Aside0.mk (hbox)
            have n4_ := Aside0.mk (szA hg blA)
            have n5_ := Aside0.mk (szA hg blA)
            have n6_ := Aside0.mk (neA hg (bkA BK418))
            have n7_ := Aside0.mk (neB hg (bkA BK418))
            have n8_ := Aside0.mk (neA hg (bkA BK419))
            have n9_ := Aside0.mk (neB hg (bkA BK419))
            clear BK418
            clear BK419
            clear HB
            have BK418 := n0_
            have BK419 := n1_
            have HB := n2_
            have BK429 := n3_
            have GW429 := n4_
            have GE429 := n5_
            have NB418_429 := n6_
            have NB429_418 := n7_
            have NB419_429 := n8_
            have NB429_419 := n9_
            clear n0_ n1_ n2_ n3_ n4_ n5_ n6_ n7_ n8_ n9_
            clear hb hbox hg
            refine hK.out _ _ ⟨(blk_cell BK418.out 0).trans rfl, (blk_cell BK418.out 1).trans rfl, (blk_cell BK418.out 2).trans rfl, (blk_cell BK418.out 3).trans rfl, (blk_cell BK419.out 0).trans rfl, (blk_cell BK419.out 1).trans rfl⟩ (fun hHeld => ?_)
            clear hK K
            refine norm_ (a' := ?_) ?_ ?_
            rotate_left
            · show Act.put _ (some 5) _ = _
              simp only [Act.put, List.setIfInBounds_toArray, List.set_cons_zero, List.set_cons_succ, i64_w, i32_w]
              rfl
            refine one_ (i := 3) (N := some 13) #[true, true, true, true, false, false, false, false, true, false, false] rfl rfl (one_of HT_.out (by kernel_rfl)) (by decide) (fun K hK => ?_)
            refine goes_ Try.func30 (by kernel_rfl) rfl #[.agg #[.int .i64 a1_0, .int .i64 a1_1]] (by rfl) rfl rfl (by (try simp only [List.map_toArray, List.map_cons, List.map_nil]); first | done | rfl | (simp only [List.length_drop, List.length_take]; rfl)) ?_
            with_reducible refine (laws_toEnd.calls a1_0 a1_1 t424 t425 _ A4.out).mono ?_
            rintro e w17 ⟨rfl, hb⟩
            refine ⟨_, rfl, ?_⟩
            have n0_ := Aside0.mk (blk_below (bkA BK418) hb)
            have n1_ := Aside0.mk (blk_below (bkA BK419) hb)
            have n2_ := Aside0.mk (blk_below (bkA BK429) hb)
            have n3_ := Aside0.mk (below_step blA hb)
            clear BK418
            clear BK419
            clear BK429
            clear HB
            have BK418 := n0_
            have BK419 := n1_
            have BK429 := n2_
            have HB := n3_
            clear n0_ n1_ n2_ n3_
            (try clear hb)
            (try clear hb2)
            (try clear hk)
            (try clear hi)
            refine hK.out _ _ ⟨(blk_cell BK418.out 0).trans rfl, (blk_cell BK418.out 1).trans rfl, (blk_cell BK418.out 2).trans rfl, (blk_cell BK418.out 3).trans rfl, (blk_cell BK419.out 0).trans rfl, (blk_cell BK419.out 1).trans rfl⟩ (fun hHeld => ?_)
            clear hK K
            refine norm_ (a' := ?_) ?_ ?_
            rotate_left
            · show Act.put _ (some 13) _ = _
              simp only [Act.put, List.setIfInBounds_toArray, List.set_cons_zero, List.set_cons_succ, i64_w, i32_w]
              rfl
            refine one_ (i := 4) (N := some 14) #[true, true, true, true, true, false, false, false, true, false, false] rfl rfl (one_of HT_.out (by kernel_rfl)) (by decide) (fun K hK => ?_)
            refine goes_ Try.func29 (by kernel_rfl) rfl #[.agg #[.int .i64 t420, .int .i64 t421, .int .i64 t422, .int .i64 t423], .agg #[.int .i64 t424, .int .i64 t425]] (by rfl) rfl rfl (by (try simp only [List.map_toArray, List.map_cons, List.map_nil]); first | done | rfl | (simp only [List.length_drop, List.length_take]; rfl)) ?_
            with_reducible refine (spec_MoveEnd.calls k t420 t421 t422 t423 t424 t425 t426 t427 t428 _ A5.out).mono ?_
            rintro e w18 ⟨rfl, hb⟩
            refine ⟨_, rfl, ?_⟩
            have n0_ := Aside0.mk (blk_below (bkA BK418) hb)
            have n1_ := Aside0.mk (blk_below (bkA BK419) hb)
            have n2_ := Aside0.mk (blk_below (bkA BK429) hb)
            have n3_ := Aside0.mk (below_step blA hb)
            clear BK418
            clear BK419
            clear BK429
            clear HB
            have BK418 := n0_
            have BK419 := n1_
            have BK429 := n2_
            have HB := n3_
            clear n0_ n1_ n2_ n3_
            (try clear hb)
            (try clear hb2)
            (try clear hk)
            (try clear hi)
            refine hK.out _ _ ⟨(blk_cell BK418.out 0).trans rfl, (blk_cell BK418.out 1).trans rfl, (blk_cell BK418.out 2).trans rfl, (blk_cell BK418.out 3).trans rfl, (blk_cell BK419.out 0).trans rfl, (blk_cell BK419.out 1).trans rfl⟩ (fun hHeld => ?_)
            clear hK K
            refine norm_ (a' := ?_) ?_ ?_
            rotate_left
            · show Act.put _ (some 14) _ = _
              simp only [Act.put, List.setIfInBounds_toArray, List.set_cons_zero, List.set_cons_succ, i64_w, i32_w]
              rfl
            refine pure_ (i := 5) (N := some 9) (v := ?_) (a' := ?_) #[true, true, true, true, true, true, false, false, true, false, false] rfl rfl (any_of HT_.out (by kernel_rfl)) (fun _ _ _ h => h) (Or.inl ⟨by rfl, ?_⟩) ?_ ?_
            rotate_left
            · intro w'
              go_simp
              with_reducible rfl
            rotate_left
            · simp only [Act.put, List.setIfInBounds_toArray, List.set_cons_zero, List.set_cons_succ, i64_w, i32_w]
              rfl
            refine pure_ (i := 6) (N := some 15) (v := ?_) (a' := ?_) #[true, true, true, true, true, true, true, false, true, false, false] rfl rfl (any_of HT_.out (by kernel_rfl)) (fun _ _ _ h => h) (Or.inl ⟨by rfl, ?_⟩) ?_ ?_
            rotate_left
            · intro w'
              go_simp
              with_reducible rfl
            rotate_left
            · simp only [Act.put, List.setIfInBounds_toArray, List.set_cons_zero, List.set_cons_succ, i64_w, i32_w]
              rfl
            refine pure_ (i := 7) (N := some 16) (v := ?_) (a' := ?_) #[true, true, true, true, true, true, true, true, true, false, false] rfl rfl (any_of HT_.out (by kernel_rfl)) (fun _ _ _ h => h) (Or.inl ⟨by rfl, ?_⟩) ?_ ?_
            rotate_left
            · intro w'
              go_simp
              with_reducible rfl
            rotate_left
            · simp only [Act.put, List.setIfInBounds_toArray, List.set_cons_zero, List.set_cons_succ, i64_w, i32_w]
              rfl
            exact norm_ (by simp only [putAll, Act.put, List.setIfInBounds_toArray, List.set_cons_zero, List.set_cons_succ]) (hCont (gb429) _ ⟨hHeld, (bkA BK418), (bkA BK419), (bkA BK429), GW429.out, GE429.out, NB418_429.out, NB429_418.out, NB419_429.out, NB429_419.out, blA⟩)
        · skip
          refine box_step ?hg (N := 5) ?hd (cs := #[.int .i64 0, .int .i64 0]) (t := 39) ?hr ?_; (case hd => rfl); (case hg => rfl); (case hr => first | (go_simp; done) | (go_simp; rfl))
          intro gb429 hg w15 hbox hb
          have n0_ := Aside0.mk (blk_below (bkA BK418) hb)
          have n1_ := Aside0.mk (blk_below (bkA BK419) hb)
          have n2_ := Aside0.mk (below_step blA hb)
          have n3_ := Aside0.mk (hbox)
          have n4_ := Aside0.mk (szA hg blA)
          have n5_ := Aside0.mk (szA hg blA)
          have n6_ := Aside0.mk (neA hg (bkA BK418))
          have n7_ := Aside0.mk (neB hg (bkA BK418))
          have n8_ := Aside0.mk (neA hg (bkA BK419))
          have n9_ := Aside0.mk (neB hg (bkA BK419))
          clear BK418
          clear BK419
          clear HB
          have BK418 := n0_
          have BK419 := n1_
          have HB := n2_
          have BK429 := n3_
          have GW429 := n4_
          have GE429 := n5_
          have NB418_429 := n6_
          have NB429_418 := n7_
          have NB419_429 := n8_
          have NB429_419 := n9_
          clear n0_ n1_ n2_ n3_ n4_ n5_ n6_ n7_ n8_ n9_
          clear hb hbox hg
          refine hK.out _ _ ⟨(blk_cell BK418.out 0).trans rfl, (blk_cell BK418.out 1).trans rfl, (blk_cell BK418.out 2).trans rfl, (blk_cell BK418.out 3).trans rfl, (blk_cell BK419.out 0).trans rfl, (blk_cell BK419.out 1).trans rfl⟩ (fun hHeld => ?_)
          clear hK K
          refine norm_ (a' := ?_) ?_ ?_
          rotate_left
          · show Act.put _ (some 5) _ = _
            simp only [Act.put, List.setIfInBounds_toArray, List.set_cons_zero, List.set_cons_succ, i64_w, i32_w]
            rfl
          refine one_ (i := 1) (N := some 11) #[true, true, true, false, false, false, false, false, true, false, false] rfl rfl (one_of HT_.out (by kernel_rfl)) (by decide) (fun K hK => ?_)
          refine goes_ Try.func16 (by kernel_rfl) rfl #[.agg #[.int .i64 a0_0, .int .i64 a0_1, .int .i64 a0_2, .int .i64 a0_3]] (by rfl) rfl rfl (by (try simp only [List.map_toArray, List.map_cons, List.map_nil]); first | done | rfl | (simp only [List.length_drop, List.length_take]; rfl)) ?_
          with_reducible refine (laws_toMatrix.calls a0_0 a0_1 a0_2 a0_3 t420 t421 t422 t423 _ A3.out).mono ?_
          rintro e w16 ⟨rfl, hb⟩
          refine ⟨_, rfl, ?_⟩
          have n0_ := Aside0.mk (blk_below (bkA BK418) hb)
          have n1_ := Aside0.mk (blk_below (bkA BK419) hb)
          have n2_ := Aside0.mk (blk_below (bkA BK429) hb)
          have n3_ := Aside0.mk (below_step blA hb)
          clear BK418
          clear BK419
          clear BK429
          clear HB
          have BK418 := n0_
          have BK419 := n1_
          have BK429 := n2_
          have HB := n3_
          clear n0_ n1_ n2_ n3_
          (try clear hb)
          (try clear hb2)
          (try clear hk)
          (try clear hi)
          refine hK.out _ _ ⟨(blk_cell BK418.out 0).trans rfl, (blk_cell BK418.out 1).trans rfl, (blk_cell BK418.out 2).trans rfl, (blk_cell BK418.out 3).trans rfl, (blk_cell BK419.out 0).trans rfl, (blk_cell BK419.out 1).trans rfl⟩ (fun hHeld => ?_)
          clear hK K
          refine norm_ (a' := ?_) ?_ ?_
          rotate_left
          · show Act.put _ (some 11) _ = _
            simp only [Act.put, List.setIfInBounds_toArray, List.set_cons_zero, List.set_cons_succ, i64_w, i32_w]
            rfl
          refine one_ (i := 3) (N := some 13) #[true, true, true, true, false, false, false, false, true, false, false] rfl rfl (one_of HT_.out (by kernel_rfl)) (by decide) (fun K hK => ?_)
          refine goes_ Try.func30 (by kernel_rfl) rfl #[.agg #[.int .i64 a1_0, .int .i64 a1_1]] (by rfl) rfl rfl (by (try simp only [List.map_toArray, List.map_cons, List.map_nil]); first | done | rfl | (simp only [List.length_drop, List.length_take]; rfl)) ?_
          with_reducible refine (laws_toEnd.calls a1_0 a1_1 t424 t425 _ A4.out).mono ?_
          rintro e w17 ⟨rfl, hb⟩
          refine ⟨_, rfl, ?_⟩
          have n0_ := Aside0.mk (blk_below (bkA BK418) hb)
          have n1_ := Aside0.mk (blk_below (bkA BK419) hb)
          have n2_ := Aside0.mk (blk_below (bkA BK429) hb)
          have n3_ := Aside0.mk (below_step blA hb)
          clear BK418
          clear BK419
          clear BK429
          clear HB
          have BK418 := n0_
          have BK419 := n1_
          have BK429 := n2_
          have HB := n3_
          clear n0_ n1_ n2_ n3_
          (try clear hb)
          (try clear hb2)
          (try clear hk)
          (try clear hi)
          refine hK.out _ _ ⟨(blk_cell BK418.out 0).trans rfl, (blk_cell BK418.out 1).trans rfl, (blk_cell BK418.out 2).trans rfl, (blk_cell BK418.out 3).trans rfl, (blk_cell BK419.out 0).trans rfl, (blk_cell BK419.out 1).trans rfl⟩ (fun hHeld => ?_)
          clear hK K
          refine norm_ (a' := ?_) ?_ ?_
          rotate_left
          · show Act.put _ (some 13) _ = _
            simp only [Act.put, List.setIfInBounds_toArray, List.set_cons_zero, List.set_cons_succ, i64_w, i32_w]
            rfl
          refine one_ (i := 4) (N := some 14) #[true, true, true, true, true, false, false, false, true, false, false] rfl rfl (one_of HT_.out (by kernel_rfl)) (by decide) (fun K hK => ?_)
          refine goes_ Try.func29 (by kernel_rfl) rfl #[.agg #[.int .i64 t420, .int .i64 t421, .int .i64 t422, .int .i64 t423], .agg #[.int .i64 t424, .int .i64 t425]] (by rfl) rfl rfl (by (try simp only [List.map_toArray, List.map_cons, List.map_nil]); first | done | rfl | (simp only [List.length_drop, List.length_take]; rfl)) ?_
          with_reducible refine (spec_MoveEnd.calls k t420 t421 t422 t423 t424 t425 t426 t427 t428 _ A5.out).mono ?_
          rintro e w18 ⟨rfl, hb⟩
          refine ⟨_, rfl, ?_⟩
          have n0_ := Aside0.mk (blk_below (bkA BK418) hb)
          have n1_ := Aside0.mk (blk_below (bkA BK419) hb)
          have n2_ := Aside0.mk (blk_below (bkA BK429) hb)
          have n3_ := Aside0.mk (below_step blA hb)
          clear BK418
          clear BK419
          clear BK429
          clear HB
          have BK418 := n0_
          have BK419 := n1_
          have BK429 := n2_
          have HB := n3_
          clear n0_ n1_ n2_ n3_
          (try clear hb)
          (try clear hb2)
          (try clear hk)
          (try clear hi)
          refine hK.out _ _ ⟨(blk_cell BK418.out 0).trans rfl, (blk_cell BK418.out 1).trans rfl, (blk_cell BK418.out 2).trans rfl, (blk_cell BK418.out 3).trans rfl, (blk_cell BK419.out 0).trans rfl, (blk_cell BK419.out 1).trans rfl⟩ (fun hHeld => ?_)
          clear hK K
          refine norm_ (a' := ?_) ?_ ?_
          rotate_left
          · show Act.put _ (some 14) _ = _
            simp only [Act.put, List.setIfInBounds_toArray, List.set_cons_zero, List.set_cons_succ, i64_w, i32_w]
            rfl
          refine pure_ (i := 5) (N := some 9) (v := ?_) (a' := ?_) #[true, true, true, true, true, true, false, false, true, false, false] rfl rfl (any_of HT_.out (by kernel_rfl)) (fun _ _ _ h => h) (Or.inl ⟨by rfl, ?_⟩) ?_ ?_
          rotate_left
          · intro w'
            go_simp
            with_reducible rfl
          rotate_left
          · simp only [Act.put, List.setIfInBounds_toArray, List.set_cons_zero, List.set_cons_succ, i64_w, i32_w]
            rfl
          refine pure_ (i := 6) (N := some 15) (v := ?_) (a' := ?_) #[true, true, true, true, true, true, true, false, true, false, false] rfl rfl (any_of HT_.out (by kernel_rfl)) (fun _ _ _ h => h) (Or.inl ⟨by rfl, ?_⟩) ?_ ?_
          rotate_left
          · intro w'
            go_simp
            with_reducible rfl
          rotate_left
          · simp only [Act.put, List.setIfInBounds_toArray, List.set_cons_zero, List.set_cons_succ, i64_w, i32_w]
            rfl
          refine pure_ (i := 7) (N := some 16) (v := ?_) (a' := ?_) #[true, true, true, true, true, true, true, true, true, false, false] rfl rfl (any_of HT_.out (by kernel_rfl)) (fun _ _ _ h => h) (Or.inl ⟨by rfl, ?_⟩) ?_ ?_
          rotate_left
          · intro w'
            go_simp
            with_reducible rfl
          rotate_left
          · simp only [Act.put, List.setIfInBounds_toArray, List.set_cons_zero, List.set_cons_succ, i64_w, i32_w]
            rfl
          exact norm_ (by simp only [putAll, Act.put, List.setIfInBounds_toArray, List.set_cons_zero, List.set_cons_succ]) (hCont (gb429) _ ⟨hHeld, (bkA BK418), (bkA BK419), (bkA BK429), GW429.out, GE429.out, NB418_429.out, NB429_418.out, NB419_429.out, NB429_419.out, blA⟩)
      rintro gb429 w19 ⟨hS_, h0_, h1_, h2_, h3_, h4_, h5_, h6_, h7_, h8_, h9_⟩
      have n0_ : Aside0 (w19.heap[gb418]? = some (.cells #[.int .i64 a0_0, .int .i64 a0_1, .int .i64 a0_2, .int .i64 a0_3] 23 (0, 0))) := ⟨h0_⟩
      have n1_ : Aside0 (w19.heap[gb419]? = some (.cells #[.int .i64 a1_0, .int .i64 a1_1] 38 (0, 0))) := ⟨h1_⟩
      have n2_ : Aside0 (w19.heap[gb429]? = some (.cells #[.int .i64 0, .int .i64 0] 39 (0, 0))) := ⟨h2_⟩
      have n3_ : Aside0 (w.heap.size ≤ gb429) := ⟨h3_⟩
      have n4_ : Aside0 (w.heap.size ≤ gb429) := ⟨h4_⟩
      have n5_ : Aside0 (gb418 ≠ gb429) := ⟨h5_⟩
      have n6_ : Aside0 (gb429 ≠ gb418) := ⟨h6_⟩
      have n7_ : Aside0 (gb419 ≠ gb429) := ⟨h7_⟩
      have n8_ : Aside0 (gb429 ≠ gb419) := ⟨h8_⟩
      have n9_ : Aside0 (Below w.heap.size w w19) := ⟨h9_⟩
      clear BK418
      clear BK419
      clear HB
      clear h0_ h1_ h2_ h3_ h4_ h5_ h6_ h7_ h8_ h9_
      have BK418 := n0_
      have BK419 := n1_
      have BK429 := n2_
      have GW429 := n3_
      have GE429 := n4_
      have NB418_429 := n5_
      have NB429_418 := n6_
      have NB419_429 := n7_
      have NB429_419 := n8_
      have HB := n9_
      clear n0_ n1_ n2_ n3_ n4_ n5_ n6_ n7_ n8_ n9_
      have hHeld : w19.cell? ⟨gb418, 0, none⟩ = some (.int .i64 a0_0) ∧ w19.cell? ⟨gb418, 1, none⟩ = some (.int .i64 a0_1) ∧ w19.cell? ⟨gb418, 2, none⟩ = some (.int .i64 a0_2) ∧ w19.cell? ⟨gb418, 3, none⟩ = some (.int .i64 a0_3) ∧ w19.cell? ⟨gb419, 0, none⟩ = some (.int .i64 a1_0) ∧ w19.cell? ⟨gb419, 1, none⟩ = some (.int .i64 a1_1) := hS_
      refine norm_ (a' := ?_) ?_ ?_
      rotate_left
      · simp only [putAll, Act.put, List.setIfInBounds_toArray, List.set_cons_zero, List.set_cons_succ]
        rfl
      refine one_ (i := 9) (N := none) #[true, true, true, true, true, true, true, true, true, true, false] rfl rfl (one_of HT_.out (by kernel_rfl)) (by decide) (fun K hK => ?_)
      have hs20 : w19.cell? ⟨gb429, 0, none⟩ = some (.int .i64 0) := (blk_cell BK429.out 0).trans rfl
      have hfs20 := blk_frozen BK429.out 0
      have hns20_0 := NB418_429.out
      have hns20_1 := NB419_429.out
      have hms20_0 := NB429_418.out
      have hms20_1 := NB429_419.out
      have hs21 : w19.cell? ⟨gb429, 1, none⟩ = some (.int .i64 0) := (blk_cell BK429.out 1).trans rfl
      have hfs21 := blk_frozen BK429.out 1
      have hns21_0 := NB418_429.out
      have hns21_1 := NB419_429.out
      have hms21_0 := NB429_418.out
      have hms21_1 := NB429_419.out
      refine skip_ (w1 := ?_) (by rfl) rfl ?_ ?_
      rotate_left
      · go_simp
        rfl
      refine hK.out _ _ ⟨((cell_far (p := ⟨gb429, _, none⟩) NB418_429.out _).trans (((cell_far (p := ⟨gb429, _, none⟩) NB418_429.out _).trans (hHeld.1)))), ((cell_far (p := ⟨gb429, _, none⟩) NB418_429.out _).trans (((cell_far (p := ⟨gb429, _, none⟩) NB418_429.out _).trans (hHeld.2.1)))), ((cell_far (p := ⟨gb429, _, none⟩) NB418_429.out _).trans (((cell_far (p := ⟨gb429, _, none⟩) NB418_429.out _).trans (hHeld.2.2.1)))), ((cell_far (p := ⟨gb429, _, none⟩) NB418_429.out _).trans (((cell_far (p := ⟨gb429, _, none⟩) NB418_429.out _).trans (hHeld.2.2.2.1)))), ((cell_far (p := ⟨gb429, _, none⟩) NB419_429.out _).trans (((cell_far (p := ⟨gb429, _, none⟩) NB419_429.out _).trans (hHeld.2.2.2.2.1)))), ((cell_far (p := ⟨gb429, _, none⟩) NB419_429.out _).trans (((cell_far (p := ⟨gb429, _, none⟩) NB419_429.out _).trans (hHeld.2.2.2.2.2))))⟩ (fun hHeld => ?_)
      clear hK K
      refine pure_ (i := 10) (N := some 6) (v := ?_) (a' := ?_) #[true, true, true, true, true, true, true, true, true, true, true] rfl rfl (any_of HT_.out (by kernel_rfl)) (fun _ _ _ h => h) (Or.inl ⟨by rfl, ?_⟩) ?_ ?_
      rotate_left
      · intro w'
        go_simp
        with_reducible rfl
      rotate_left
      · simp only [Act.put, List.setIfInBounds_toArray, List.set_cons_zero, List.set_cons_succ, i64_w, i32_w]
        rfl
      refine done_ (done_of HT_.out (by kernel_rfl)) ?_
      try go_wp2
      have n0_ : Aside0 (((w19.setCell ⟨gb429, 0, none⟩ (.int .i64 t426)).setCell ⟨gb429, 1, none⟩ (.int .i64 t427)).heap[gb418]? = some (.cells #[.int .i64 a0_0, .int .i64 a0_1, .int .i64 a0_2, .int .i64 a0_3] 23 (0, 0))) := ⟨by (with_reducible repeat (first | refine blk_drewN ?_ _ | refine blk_drew ?_ | refine blk_alloc ?_ _)); refine blk_far ?_ NB418_429.out _; (with_reducible repeat (first | refine blk_drewN ?_ _ | refine blk_drew ?_ | refine blk_alloc ?_ _)); refine blk_far ?_ NB418_429.out _; (with_reducible repeat (first | refine blk_drewN ?_ _ | refine blk_drew ?_ | refine blk_alloc ?_ _)); exact BK418.out⟩
      have n1_ : Aside0 (((w19.setCell ⟨gb429, 0, none⟩ (.int .i64 t426)).setCell ⟨gb429, 1, none⟩ (.int .i64 t427)).heap[gb419]? = some (.cells #[.int .i64 a1_0, .int .i64 a1_1] 38 (0, 0))) := ⟨by (with_reducible repeat (first | refine blk_drewN ?_ _ | refine blk_drew ?_ | refine blk_alloc ?_ _)); refine blk_far ?_ NB419_429.out _; (with_reducible repeat (first | refine blk_drewN ?_ _ | refine blk_drew ?_ | refine blk_alloc ?_ _)); refine blk_far ?_ NB419_429.out _; (with_reducible repeat (first | refine blk_drewN ?_ _ | refine blk_drew ?_ | refine blk_alloc ?_ _)); exact BK419.out⟩
      have n2_ : Aside0 (((w19.setCell ⟨gb429, 0, none⟩ (.int .i64 t426)).setCell ⟨gb429, 1, none⟩ (.int .i64 t427)).heap[gb429]? = some (.cells #[.int .i64 t426, .int .i64 t427] 39 (0, 0))) := ⟨by (with_reducible repeat (first | refine blk_drewN ?_ _ | refine blk_drew ?_ | refine blk_alloc ?_ _)); refine blk_put (cs := #[.int .i64 t426, .int .i64 0]) ?_ 1 _ rfl; (with_reducible repeat (first | refine blk_drewN ?_ _ | refine blk_drew ?_ | refine blk_alloc ?_ _)); refine blk_put (cs := #[.int .i64 0, .int .i64 0]) ?_ 0 _ rfl; (with_reducible repeat (first | refine blk_drewN ?_ _ | refine blk_drew ?_ | refine blk_alloc ?_ _)); exact BK429.out⟩
      have n3_ : Aside0 (Below w.heap.size w ((w19.setCell ⟨gb429, 0, none⟩ (.int .i64 t426)).setCell ⟨gb429, 1, none⟩ (.int .i64 t427))) := ⟨blA⟩
      (try clear BK418)
      (try clear BK419)
      (try clear BK429)
      (try clear HB)
      generalize ((w19.setCell ⟨gb429, 0, none⟩ (.int .i64 t426)).setCell ⟨gb429, 1, none⟩ (.int .i64 t427)) = w22 at n0_ n1_ n2_ n3_ ⊢
      have BK418 := n0_
      have BK419 := n1_
      have BK429 := n2_
      have HB := n3_
      clear n0_ n1_ n2_ n3_
      have n0_ := Aside0.mk (blk_drew BK418.out)
      have n1_ := Aside0.mk (blk_drew BK419.out)
      have n2_ := Aside0.mk (blk_drew BK429.out)
      have n3_ := Aside0.mk (below_drew1 HB.out)
      clear BK418
      clear BK419
      clear BK429
      clear HB
      have BK418 := n0_
      have BK419 := n1_
      have BK429 := n2_
      have HB := n3_
      clear n0_ n1_ n2_ n3_
      refine start_ (n := 11) (S := fun w' => w'.cell? ⟨gb418, 0, none⟩ = some (.int .i64 a0_0) ∧ w'.cell? ⟨gb418, 1, none⟩ = some (.int .i64 a0_1) ∧ w'.cell? ⟨gb418, 2, none⟩ = some (.int .i64 a0_2) ∧ w'.cell? ⟨gb418, 3, none⟩ = some (.int .i64 a0_3) ∧ w'.cell? ⟨gb419, 0, none⟩ = some (.int .i64 a1_0) ∧ w'.cell? ⟨gb419, 1, none⟩ = some (.int .i64 a1_1)) (ds := []) #[false, false, false, false, false, false, false, false, false, false, false] (by kernel_rfl) rfl rfl ⟨(blk_cell BK418.out 0).trans rfl, (blk_cell BK418.out 1).trans rfl, (blk_cell BK418.out 2).trans rfl, (blk_cell BK418.out 3).trans rfl, (blk_cell BK419.out 0).trans rfl, (blk_cell BK419.out 1).trans rfl⟩ (fun hHeld => ?_); refine with_tabW laws_FnExactMoveEnd.tab2 laws_FnExactMoveEnd.bits2 (fun HT_ HW_ => ?_)
      generalize w22.drew = w23 at BK418 BK419 BK429 HB hHeld ⊢
      refine take_ (i := 0) (N := some 18) (v := ?_) (a' := ?_) #[true, false, false, false, false, false, false, false, false, false, false] rfl rfl (take_ofW HT_.out HW_.out (by kernel_rfl)) (fun _ _ _ h => h) (Or.inl ⟨by rfl, ?_⟩) hHeld ?_ ?_
      rotate_left
      · rintro w' ⟨s0, s1, s2, s3, s4, s5⟩
        go_simp
        with_reducible rfl
      rotate_left
      · simp only [Act.put, List.setIfInBounds_toArray, List.set_cons_zero, List.set_cons_succ, i64_w, i32_w]
        rfl
      refine take_ (i := 2) (N := some 20) (v := ?_) (a' := ?_) #[true, false, true, false, false, false, false, false, false, false, false] rfl rfl (take_ofW HT_.out HW_.out (by kernel_rfl)) (fun _ _ _ h => h) (Or.inl ⟨by rfl, ?_⟩) hHeld ?_ ?_
      rotate_left
      · rintro w' ⟨s0, s1, s2, s3, s4, s5⟩
        go_simp
        with_reducible rfl
      rotate_left
      · simp only [Act.put, List.setIfInBounds_toArray, List.set_cons_zero, List.set_cons_succ, i64_w, i32_w]
        rfl
      refine join_ (σ := Nat) 2 #[true, true, true, true, true, true, true, true, true, false, false] (fun s_ => [(19, .agg #[.int .i64 t430, .int .i64 t431, .int .i64 t432, .int .i64 t433]), (21, .agg #[.int .i64 t434, .int .i64 t435]), (22, .tuple #[.agg #[.int .i64 t436, .int .i64 t437], .int .i64 t438]), (7, .pointer (some ⟨s_, 0, none⟩)), (17, .tuple #[.agg #[.int .i64 t436, .int .i64 t437], .int .i64 t438]), (23, .agg #[.int .i64 t436, .int .i64 t437]), (24, .int .i64 t438)]) (fun s_ w' => (w'.cell? ⟨gb418, 0, none⟩ = some (.int .i64 a0_0) ∧ w'.cell? ⟨gb418, 1, none⟩ = some (.int .i64 a0_1) ∧ w'.cell? ⟨gb418, 2, none⟩ = some (.int .i64 a0_2) ∧ w'.cell? ⟨gb418, 3, none⟩ = some (.int .i64 a0_3) ∧ w'.cell? ⟨gb419, 0, none⟩ = some (.int .i64 a1_0) ∧ w'.cell? ⟨gb419, 1, none⟩ = some (.int .i64 a1_1)) ∧ (w'.heap[gb418]? = some (.cells #[.int .i64 a0_0, .int .i64 a0_1, .int .i64 a0_2, .int .i64 a0_3] 23 (0, 0))) ∧ (w'.heap[gb419]? = some (.cells #[.int .i64 a1_0, .int .i64 a1_1] 38 (0, 0))) ∧ (w'.heap[gb429]? = some (.cells #[.int .i64 t426, .int .i64 t427] 39 (0, 0))) ∧ (w'.heap[s_]? = some (.cells #[.int .i64 0, .int .i64 0] 39 (0, 0))) ∧ (w.heap.size ≤ s_) ∧ (w.heap.size ≤ s_) ∧ (gb418 ≠ s_) ∧ (s_ ≠ gb418) ∧ (gb419 ≠ s_) ∧ (s_ ≠ gb419) ∧ (gb429 ≠ s_) ∧ (s_ ≠ gb429) ∧ (Below w.heap.size w w')) ?_ ?_
      rotate_left
      · intro hCont
        refine two_ (i := 1) (j := 8) (Ni := some 19) (Nj := some 7) #[true, true, true, false, false, false, false, false, false, false, false] #[true, false, true, false, false, false, false, false, true, false, false] rfl rfl rfl rfl (two_of HT_.out (by kernel_rfl)) (by decide) (by decide) (fun K hK => ?_) (fun K hK => ?_)
        · skip
          refine goes_ Try.func16 (by kernel_rfl) rfl #[.agg #[.int .i64 a0_0, .int .i64 a0_1, .int .i64 a0_2, .int .i64 a0_3]] (by rfl) rfl rfl (by (try simp only [List.map_toArray, List.map_cons, List.map_nil]); first | done | rfl | (simp only [List.length_drop, List.length_take]; rfl)) ?_
          with_reducible refine (laws_toMatrix.calls a0_0 a0_1 a0_2 a0_3 t430 t431 t432 t433 _ A6.out).mono ?_
          rintro e w24 ⟨rfl, hb⟩
          refine ⟨_, rfl, ?_⟩
          have n0_ := Aside0.mk (blk_below (bkA BK418) hb)
          have n1_ := Aside0.mk (blk_below (bkA BK419) hb)
          have n2_ := Aside0.mk (blk_below (bkA BK429) hb)
          have n3_ := Aside0.mk (below_step blA hb)
          clear BK418
          clear BK419
          clear BK429
          clear HB
          have BK418 := n0_
          have BK419 := n1_
          have BK429 := n2_
          have HB := n3_
          clear n0_ n1_ n2_ n3_
          (try clear hb)
          (try clear hb2)
          (try clear hk)
          (try clear hi)
          refine hK.out _ _ ⟨(blk_cell BK418.out 0).trans rfl, (blk_cell BK418.out 1).trans rfl, (blk_cell BK418.out 2).trans rfl, (blk_cell BK418.out 3).trans rfl, (blk_cell BK419.out 0).trans rfl, (blk_cell BK419.out 1).trans rfl⟩ (fun hHeld => ?_)
          clear hK K
          refine norm_ (a' := ?_) ?_ ?_
          rotate_left
          · show Act.put _ (some 19) _ = _
            simp only [Act.put, List.setIfInBounds_toArray, List.set_cons_zero, List.set_cons_succ, i64_w, i32_w]
            rfl
          refine two_ (i := 3) (j := 8) (Ni := some 21) (Nj := some 7) #[true, true, true, true, false, false, false, false, false, false, false] #[true, true, true, false, false, false, false, false, true, false, false] rfl rfl rfl rfl (two_of HT_.out (by kernel_rfl)) (by decide) (by decide) (fun K hK => ?_) (fun K hK => ?_)
          · skip
            refine goes_ Try.func30 (by kernel_rfl) rfl #[.agg #[.int .i64 a1_0, .int .i64 a1_1]] (by rfl) rfl rfl (by (try simp only [List.map_toArray, List.map_cons, List.map_nil]); first | done | rfl | (simp only [List.length_drop, List.length_take]; rfl)) ?_
            with_reducible refine (laws_toEnd.calls a1_0 a1_1 t434 t435 _ A7.out).mono ?_
            rintro e w25 ⟨rfl, hb⟩
            refine ⟨_, rfl, ?_⟩
            have n0_ := Aside0.mk (blk_below (bkA BK418) hb)
            have n1_ := Aside0.mk (blk_below (bkA BK419) hb)
            have n2_ := Aside0.mk (blk_below (bkA BK429) hb)
            have n3_ := Aside0.mk (below_step blA hb)
            clear BK418
            clear BK419
            clear BK429
            clear HB
            have BK418 := n0_
            have BK419 := n1_
            have BK429 := n2_
            have HB := n3_
            clear n0_ n1_ n2_ n3_
            (try clear hb)
            (try clear hb2)
            (try clear hk)
            (try clear hi)
            refine hK.out _ _ ⟨(blk_cell BK418.out 0).trans rfl, (blk_cell BK418.out 1).trans rfl, (blk_cell BK418.out 2).trans rfl, (blk_cell BK418.out 3).trans rfl, (blk_cell BK419.out 0).trans rfl, (blk_cell BK419.out 1).trans rfl⟩ (fun hHeld => ?_)
            clear hK K
            refine norm_ (a' := ?_) ?_ ?_
            rotate_left
            · show Act.put _ (some 21) _ = _
              simp only [Act.put, List.setIfInBounds_toArray, List.set_cons_zero, List.set_cons_succ, i64_w, i32_w]
              rfl
            refine two_ (i := 4) (j := 8) (Ni := some 22) (Nj := some 7) #[true, true, true, true, true, false, false, false, false, false, false] #[true, true, true, true, false, false, false, false, true, false, false] rfl rfl rfl rfl (two_of HT_.out (by kernel_rfl)) (by decide) (by decide) (fun K hK => ?_) (fun K hK => ?_)
            · skip
              refine goes_ Try.func31 (by kernel_rfl) rfl #[.agg #[.int .i64 t430, .int .i64 t431, .int .i64 t432, .int .i64 t433], .agg #[.int .i64 t434, .int .i64 t435]] (by rfl) rfl rfl (by (try simp only [List.map_toArray, List.map_cons, List.map_nil]); first | done | rfl | (simp only [List.length_drop, List.length_take]; rfl)) ?_
              with_reducible refine (impl_MoveEnd.calls k t430 t431 t432 t433 t434 t435 t436 t437 t438 _ A8.out).mono ?_
              rintro e w26 ⟨rfl, hb⟩
              refine ⟨_, rfl, ?_⟩
              have n0_ := Aside0.mk (blk_below (bkA BK418) hb)
              have n1_ := Aside0.mk (blk_below (bkA BK419) hb)
              have n2_ := Aside0.mk (blk_below (bkA BK429) hb)
              have n3_ := Aside0.mk (below_step blA hb)
              clear BK418
              clear BK419
              clear BK429
              clear HB
              have BK418 := n0_
              have BK419 := n1_
              have BK429 := n2_
              have HB := n3_
              clear n0_ n1_ n2_ n3_
              (try clear hb)
              (try clear hb2)
              (try clear hk)
              (try clear hi)
              refine hK.out _ _ ⟨(blk_cell BK418.out 0).trans rfl, (blk_cell BK418.out 1).trans rfl, (blk_cell BK418.out 2).trans rfl, (blk_cell BK418.out 3).trans rfl, (blk_cell BK419.out 0).trans rfl, (blk_cell BK419.out 1).trans rfl⟩ (fun hHeld => ?_)
              clear hK K
              refine norm_ (a' := ?_) ?_ ?_
              rotate_left
              · show Act.put _ (some 22) _ = _
                simp only [Act.put, List.setIfInBounds_toArray, List.set_cons_zero, List.set_cons_succ, i64_w, i32_w]
                rfl
              refine pure_ (i := 5) (N := some 17) (v := ?_) (a' := ?_) #[true, true, true, true, true, true, false, false, false, false, false] rfl rfl (any_of HT_.out (by kernel_rfl)) (fun _ _ _ h => h) (Or.inl ⟨by rfl, ?_⟩) ?_ ?_
              rotate_left
              · intro w'
                go_simp
                with_reducible rfl
              rotate_left
              · simp only [Act.put, List.setIfInBounds_toArray, List.set_cons_zero, List.set_cons_succ, i64_w, i32_w]
                rfl
              refine pure_ (i := 6) (N := some 23) (v := ?_) (a' := ?_) #[true, true, true, true, true, true, true, false, false, false, false] rfl rfl (any_of HT_.out (by kernel_rfl)) (fun _ _ _ h => h) (Or.inl ⟨by rfl, ?_⟩) ?_ ?_
              rotate_left
              · intro w'
                go_simp
                with_reducible rfl
              rotate_left
              · simp only [Act.put, List.setIfInBounds_toArray, List.set_cons_zero, List.set_cons_succ, i64_w, i32_w]
                rfl
              refine pure_ (i := 7) (N := some 24) (v := ?_) (a' := ?_) #[true, true, true, true, true, true, true, true, false, false, false] rfl rfl (any_of HT_.out (by kernel_rfl)) (fun _ _ _ h => h) (Or.inl ⟨by rfl, ?_⟩) ?_ ?_
              rotate_left
              · intro w'
                go_simp
                with_reducible rfl
              rotate_left
              · simp only [Act.put, List.setIfInBounds_toArray, List.set_cons_zero, List.set_cons_succ, i64_w, i32_w]
                rfl
              refine one_ (i := 8) (N := some 7) #[true, true, true, true, true, true, true, true, true, false, false] rfl rfl (one_of HT_.out (by kernel_rfl)) (by decide) (fun K hK => ?_)
              refine box_step ?hg (N := 7) ?hd (cs := #[.int .i64 0, .int .i64 0]) (t := 39) ?hr ?_; (case hd => rfl); (case hg => rfl); (case hr => first | (go_simp; done) | (go_simp; rfl))
              intro gb439 hg w27 hbox hb
              have n0_ := Aside0.mk (blk_below (bkA BK418) hb)
              have n1_ := Aside0.mk (blk_below (bkA BK419) hb)
              have n2_ := Aside0.mk (blk_below (bkA BK429) hb)
              have n3_ := Aside0.mk (below_step blA hb)
              have n4_ := Aside0.mk (hbox)
              have n5_ := Aside0.mk (szA hg blA)
              have n6_ := Aside0.mk (szA hg blA)
              have n7_ := Aside0.mk (neA hg (bkA BK418))
              have n8_ := Aside0.mk (neB hg (bkA BK418))
              have n9_ := Aside0.mk (neA hg (bkA BK419))
              have n10_ := Aside0.mk (neB hg (bkA BK419))
              have n11_ := Aside0.mk (neA hg (bkA BK429))
              have n12_ := Aside0.mk (neB hg (bkA BK429))
              clear BK418
              clear BK419
              clear BK429
              clear HB
              have BK418 := n0_
              have BK419 := n1_
              have BK429 := n2_
              have HB := n3_
              have BK439 := n4_
              have GW439 := n5_
              have GE439 := n6_
              have NB418_439 := n7_
              have NB439_418 := n8_
              have NB419_439 := n9_
              have NB439_419 := n10_
              have NB429_439 := n11_
              have NB439_429 := n12_
              clear n0_ n1_ n2_ n3_ n4_ n5_ n6_ n7_ n8_ n9_ n10_ n11_ n12_
              clear hb hbox hg
              refine hK.out _ _ ⟨(blk_cell BK418.out 0).trans rfl, (blk_cell BK418.out 1).trans rfl, (blk_cell BK418.out 2).trans rfl, (blk_cell BK418.out 3).trans rfl, (blk_cell BK419.out 0).trans rfl, (blk_cell BK419.out 1).trans rfl⟩ (fun hHeld => ?_)
              clear hK K
              refine norm_ (a' := ?_) ?_ ?_
              rotate_left
              · show Act.put _ (some 7) _ = _
                simp only [Act.put, List.setIfInBounds_toArray, List.set_cons_zero, List.set_cons_succ, i64_w, i32_w]
                rfl
              exact norm_ (by simp only [putAll, Act.put, List.setIfInBounds_toArray, List.set_cons_zero, List.set_cons_succ]) (hCont (gb439) _ ⟨hHeld, (bkA BK418), (bkA BK419), (bkA BK429), (bkA BK439), GW439.out, GE439.out, NB418_439.out, NB439_418.out, NB419_439.out, NB439_419.out, NB429_439.out, NB439_429.out, blA⟩)
            · skip
              refine box_step ?hg (N := 7) ?hd (cs := #[.int .i64 0, .int .i64 0]) (t := 39) ?hr ?_; (case hd => rfl); (case hg => rfl); (case hr => first | (go_simp; done) | (go_simp; rfl))
              intro gb439 hg w26 hbox hb
              have n0_ := Aside0.mk (blk_below (bkA BK418) hb)
              have n1_ := Aside0.mk (blk_below (bkA BK419) hb)
              have n2_ := Aside0.mk (blk_below (bkA BK429) hb)
              have n3_ := Aside0.mk (below_step blA hb)
              have n4_ := Aside0.mk (hbox)
              have n5_ := Aside0.mk (szA hg blA)
              have n6_ := Aside0.mk (szA hg blA)
              have n7_ := Aside0.mk (neA hg (bkA BK418))
              have n8_ := Aside0.mk (neB hg (bkA BK418))
              have n9_ := Aside0.mk (neA hg (bkA BK419))
              have n10_ := Aside0.mk (neB hg (bkA BK419))
              have n11_ := Aside0.mk (neA hg (bkA BK429))
              have n12_ := Aside0.mk (neB hg (bkA BK429))
              clear BK418
              clear BK419
              clear BK429
              clear HB
              have BK418 := n0_
              have BK419 := n1_
              have BK429 := n2_
              have HB := n3_
              have BK439 := n4_
              have GW439 := n5_
              have GE439 := n6_
              have NB418_439 := n7_
              have NB439_418 := n8_
              have NB419_439 := n9_
              have NB439_419 := n10_
              have NB429_439 := n11_
              have NB439_429 := n12_
              clear n0_ n1_ n2_ n3_ n4_ n5_ n6_ n7_ n8_ n9_ n10_ n11_ n12_
              clear hb hbox hg
              refine hK.out _ _ ⟨(blk_cell BK418.out 0).trans rfl, (blk_cell BK418.out 1).trans rfl, (blk_cell BK418.out 2).trans rfl, (blk_cell BK418.out 3).trans rfl, (blk_cell BK419.out 0).trans rfl, (blk_cell BK419.out 1).trans rfl⟩ (fun hHeld => ?_)
              clear hK K
              refine norm_ (a' := ?_) ?_ ?_
              rotate_left
              · show Act.put _ (some 7) _ = _
                simp only [Act.put, List.setIfInBounds_toArray, List.set_cons_zero, List.set_cons_succ, i64_w, i32_w]
                rfl
              refine one_ (i := 4) (N := some 22) #[true, true, true, true, true, false, false, false, true, false, false] rfl rfl (one_of HT_.out (by kernel_rfl)) (by decide) (fun K hK => ?_)
              refine goes_ Try.func31 (by kernel_rfl) rfl #[.agg #[.int .i64 t430, .int .i64 t431, .int .i64 t432, .int .i64 t433], .agg #[.int .i64 t434, .int .i64 t435]] (by rfl) rfl rfl (by (try simp only [List.map_toArray, List.map_cons, List.map_nil]); first | done | rfl | (simp only [List.length_drop, List.length_take]; rfl)) ?_
              with_reducible refine (impl_MoveEnd.calls k t430 t431 t432 t433 t434 t435 t436 t437 t438 _ A8.out).mono ?_
              rintro e w27 ⟨rfl, hb⟩
              refine ⟨_, rfl, ?_⟩
              have n0_ := Aside0.mk (blk_below (bkA BK418) hb)
              have n1_ := Aside0.mk (blk_below (bkA BK419) hb)
              have n2_ := Aside0.mk (blk_below (bkA BK429) hb)
              have n3_ := Aside0.mk (blk_below (bkA BK439) hb)
              have n4_ := Aside0.mk (below_step blA hb)
              clear BK418
              clear BK419
              clear BK429
              clear BK439
              clear HB
              have BK418 := n0_
              have BK419 := n1_
              have BK429 := n2_
              have BK439 := n3_
              have HB := n4_
              clear n0_ n1_ n2_ n3_ n4_
              (try clear hb)
              (try clear hb2)
              (try clear hk)
              (try clear hi)
              refine hK.out _ _ ⟨(blk_cell BK418.out 0).trans rfl, (blk_cell BK418.out 1).trans rfl, (blk_cell BK418.out 2).trans rfl, (blk_cell BK418.out 3).trans rfl, (blk_cell BK419.out 0).trans rfl, (blk_cell BK419.out 1).trans rfl⟩ (fun hHeld => ?_)
              clear hK K
              refine norm_ (a' := ?_) ?_ ?_
              rotate_left
              · show Act.put _ (some 22) _ = _
                simp only [Act.put, List.setIfInBounds_toArray, List.set_cons_zero, List.set_cons_succ, i64_w, i32_w]
                rfl
              refine pure_ (i := 5) (N := some 17) (v := ?_) (a' := ?_) #[true, true, true, true, true, true, false, false, true, false, false] rfl rfl (any_of HT_.out (by kernel_rfl)) (fun _ _ _ h => h) (Or.inl ⟨by rfl, ?_⟩) ?_ ?_
              rotate_left
              · intro w'
                go_simp
                with_reducible rfl
              rotate_left
              · simp only [Act.put, List.setIfInBounds_toArray, List.set_cons_zero, List.set_cons_succ, i64_w, i32_w]
                rfl
              refine pure_ (i := 6) (N := some 23) (v := ?_) (a' := ?_) #[true, true, true, true, true, true, true, false, true, false, false] rfl rfl (any_of HT_.out (by kernel_rfl)) (fun _ _ _ h => h) (Or.inl ⟨by rfl, ?_⟩) ?_ ?_
              rotate_left
              · intro w'
                go_simp
                with_reducible rfl
              rotate_left
              · simp only [Act.put, List.setIfInBounds_toArray, List.set_cons_zero, List.set_cons_succ, i64_w, i32_w]
                rfl
              refine pure_ (i := 7) (N := some 24) (v := ?_) (a' := ?_) #[true, true, true, true, true, true, true, true, true, false, false] rfl rfl (any_of HT_.out (by kernel_rfl)) (fun _ _ _ h => h) (Or.inl ⟨by rfl, ?_⟩) ?_ ?_
              rotate_left
              · intro w'
                go_simp
                with_reducible rfl
              rotate_left
              · simp only [Act.put, List.setIfInBounds_toArray, List.set_cons_zero, List.set_cons_succ, i64_w, i32_w]
                rfl
              exact norm_ (by simp only [putAll, Act.put, List.setIfInBounds_toArray, List.set_cons_zero, List.set_cons_succ]) (hCont (gb439) _ ⟨hHeld, (bkA BK418), (bkA BK419), (bkA BK429), (bkA BK439), GW439.out, GE439.out, NB418_439.out, NB439_418.out, NB419_439.out, NB439_419.out, NB429_439.out, NB439_429.out, blA⟩)
          · skip
            refine box_step ?hg (N := 7) ?hd (cs := #[.int .i64 0, .int .i64 0]) (t := 39) ?hr ?_; (case hd => rfl); (case hg => rfl); (case hr => first | (go_simp; done) | (go_simp; rfl))
            intro gb439 hg w25 hbox hb
            have n0_ := Aside0.mk (blk_below (bkA BK418) hb)
            have n1_ := Aside0.mk (blk_below (bkA BK419) hb)
            have n2_ := Aside0.mk (blk_below (bkA BK429) hb)
            have n3_ := Aside0.mk (below_step blA hb)
            have n4_ := Aside0.mk (hbox)
            have n5_ := Aside0.mk (szA hg blA)
            have n6_ := Aside0.mk (szA hg blA)
            have n7_ := Aside0.mk (neA hg (bkA BK418))
            have n8_ := Aside0.mk (neB hg (bkA BK418))
            have n9_ := Aside0.mk (neA hg (bkA BK419))
            have n10_ := Aside0.mk (neB hg (bkA BK419))
            have n11_ := Aside0.mk (neA hg (bkA BK429))
            have n12_ := Aside0.mk (neB hg (bkA BK429))
            clear BK418
            clear BK419
            clear BK429
            clear HB
            have BK418 := n0_
            have BK419 := n1_
            have BK429 := n2_
            have HB := n3_
            have BK439 := n4_
            have GW439 := n5_
            have GE439 := n6_
            have NB418_439 := n7_
            have NB439_418 := n8_
            have NB419_439 := n9_
            have NB439_419 := n10_
            have NB429_439 := n11_
            have NB439_429 := n12_
            clear n0_ n1_ n2_ n3_ n4_ n5_ n6_ n7_ n8_ n9_ n10_ n11_ n12_
            clear hb hbox hg
            refine hK.out _ _ ⟨(blk_cell BK418.out 0).trans rfl, (blk_cell BK418.out 1).trans rfl, (blk_cell BK418.out 2).trans rfl, (blk_cell BK418.out 3).trans rfl, (blk_cell BK419.out 0).trans rfl, (blk_cell BK419.out 1).trans rfl⟩ (fun hHeld => ?_)
            clear hK K
            refine norm_ (a' := ?_) ?_ ?_
            rotate_left
            · show Act.put _ (some 7) _ = _
              simp only [Act.put, List.setIfInBounds_toArray, List.set_cons_zero, List.set_cons_succ, i64_w, i32_w]
              rfl
            refine one_ (i := 3) (N := some 21) #[true, true, true, true, false, false, false, false, true, false, false] rfl rfl (one_of HT_.out (by kernel_rfl)) (by decide) (fun K hK => ?_)
            refine goes_ Try.func30 (by kernel_rfl) rfl #[.agg #[.int .i64 a1_0, .int .i64 a1_1]] (by rfl) rfl rfl (by (try simp only [List.map_toArray, List.map_cons, List.map_nil]); first | done | rfl | (simp only [List.length_drop, List.length_take]; rfl)) ?_
            with_reducible refine (laws_toEnd.calls a1_0 a1_1 t434 t435 _ A7.out).mono ?_
            rintro e w26 ⟨rfl, hb⟩
            refine ⟨_, rfl, ?_⟩
            have n0_ := Aside0.mk (blk_below (bkA BK418) hb)
            have n1_ := Aside0.mk (blk_below (bkA BK419) hb)
            have n2_ := Aside0.mk (blk_below (bkA BK429) hb)
            have n3_ := Aside0.mk (blk_below (bkA BK439) hb)
            have n4_ := Aside0.mk (below_step blA hb)
            clear BK418
            clear BK419
            clear BK429
            clear BK439
            clear HB
            have BK418 := n0_
            have BK419 := n1_
            have BK429 := n2_
            have BK439 := n3_
            have HB := n4_
            clear n0_ n1_ n2_ n3_ n4_
            (try clear hb)
            (try clear hb2)
            (try clear hk)
            (try clear hi)
            refine hK.out _ _ ⟨(blk_cell BK418.out 0).trans rfl, (blk_cell BK418.out 1).trans rfl, (blk_cell BK418.out 2).trans rfl, (blk_cell BK418.out 3).trans rfl, (blk_cell BK419.out 0).trans rfl, (blk_cell BK419.out 1).trans rfl⟩ (fun hHeld => ?_)
            clear hK K
            refine norm_ (a' := ?_) ?_ ?_
            rotate_left
            · show Act.put _ (some 21) _ = _
              simp only [Act.put, List.setIfInBounds_toArray, List.set_cons_zero, List.set_cons_succ, i64_w, i32_w]
              rfl
            refine one_ (i := 4) (N := some 22) #[true, true, true, true, true, false, false, false, true, false, false] rfl rfl (one_of HT_.out (by kernel_rfl)) (by decide) (fun K hK => ?_)
            refine goes_ Try.func31 (by kernel_rfl) rfl #[.agg #[.int .i64 t430, .int .i64 t431, .int .i64 t432, .int .i64 t433], .agg #[.int .i64 t434, .int .i64 t435]] (by rfl) rfl rfl (by (try simp only [List.map_toArray, List.map_cons, List.map_nil]); first | done | rfl | (simp only [List.length_drop, List.length_take]; rfl)) ?_
            with_reducible refine (impl_MoveEnd.calls k t430 t431 t432 t433 t434 t435 t436 t437 t438 _ A8.out).mono ?_
            rintro e w27 ⟨rfl, hb⟩
            refine ⟨_, rfl, ?_⟩
            have n0_ := Aside0.mk (blk_below (bkA BK418) hb)
            have n1_ := Aside0.mk (blk_below (bkA BK419) hb)
            have n2_ := Aside0.mk (blk_below (bkA BK429) hb)
            have n3_ := Aside0.mk (blk_below (bkA BK439) hb)
            have n4_ := Aside0.mk (below_step blA hb)
            clear BK418
            clear BK419
            clear BK429
            clear BK439
            clear HB
            have BK418 := n0_
            have BK419 := n1_
            have BK429 := n2_
            have BK439 := n3_
            have HB := n4_
            clear n0_ n1_ n2_ n3_ n4_
            (try clear hb)
            (try clear hb2)
            (try clear hk)
            (try clear hi)
            refine hK.out _ _ ⟨(blk_cell BK418.out 0).trans rfl, (blk_cell BK418.out 1).trans rfl, (blk_cell BK418.out 2).trans rfl, (blk_cell BK418.out 3).trans rfl, (blk_cell BK419.out 0).trans rfl, (blk_cell BK419.out 1).trans rfl⟩ (fun hHeld => ?_)
            clear hK K
            refine norm_ (a' := ?_) ?_ ?_
            rotate_left
            · show Act.put _ (some 22) _ = _
              simp only [Act.put, List.setIfInBounds_toArray, List.set_cons_zero, List.set_cons_succ, i64_w, i32_w]
              rfl
            refine pure_ (i := 5) (N := some 17) (v := ?_) (a' := ?_) #[true, true, true, true, true, true, false, false, true, false, false] rfl rfl (any_of HT_.out (by kernel_rfl)) (fun _ _ _ h => h) (Or.inl ⟨by rfl, ?_⟩) ?_ ?_
            rotate_left
            · intro w'
              go_simp
              with_reducible rfl
            rotate_left
            · simp only [Act.put, List.setIfInBounds_toArray, List.set_cons_zero, List.set_cons_succ, i64_w, i32_w]
              rfl
            refine pure_ (i := 6) (N := some 23) (v := ?_) (a' := ?_) #[true, true, true, true, true, true, true, false, true, false, false] rfl rfl (any_of HT_.out (by kernel_rfl)) (fun _ _ _ h => h) (Or.inl ⟨by rfl, ?_⟩) ?_ ?_
            rotate_left
            · intro w'
              go_simp
              with_reducible rfl
            rotate_left
            · simp only [Act.put, List.setIfInBounds_toArray, List.set_cons_zero, List.set_cons_succ, i64_w, i32_w]
              rfl
            refine pure_ (i := 7) (N := some 24) (v := ?_) (a' := ?_) #[true, true, true, true, true, true, true, true, true, false, false] rfl rfl (any_of HT_.out (by kernel_rfl)) (fun _ _ _ h => h) (Or.inl ⟨by rfl, ?_⟩) ?_ ?_
            rotate_left
            · intro w'
              go_simp
              with_reducible rfl
            rotate_left
            · simp only [Act.put, List.setIfInBounds_toArray, List.set_cons_zero, List.set_cons_succ, i64_w, i32_w]
              rfl
            exact norm_ (by simp only [putAll, Act.put, List.setIfInBounds_toArray, List.set_cons_zero, List.set_cons_succ]) (hCont (gb439) _ ⟨hHeld, (bkA BK418), (bkA BK419), (bkA BK429), (bkA BK439), GW439.out, GE439.out, NB418_439.out, NB439_418.out, NB419_439.out, NB439_419.out, NB429_439.out, NB439_429.out, blA⟩)
        · skip
          refine box_step ?hg (N := 7) ?hd (cs := #[.int .i64 0, .int .i64 0]) (t := 39) ?hr ?_; (case hd => rfl); (case hg => rfl); (case hr => first | (go_simp; done) | (go_simp; rfl))
          intro gb439 hg w24 hbox hb
          have n0_ := Aside0.mk (blk_below (bkA BK418) hb)
          have n1_ := Aside0.mk (blk_below (bkA BK419) hb)
          have n2_ := Aside0.mk (blk_below (bkA BK429) hb)
          have n3_ := Aside0.mk (below_step blA hb)
          have n4_ := Aside0.mk (hbox)
          have n5_ := Aside0.mk (szA hg blA)
          have n6_ := Aside0.mk (szA hg blA)
          have n7_ := Aside0.mk (neA hg (bkA BK418))
          have n8_ := Aside0.mk (neB hg (bkA BK418))
          have n9_ := Aside0.mk (neA hg (bkA BK419))
          have n10_ := Aside0.mk (neB hg (bkA BK419))
          have n11_ := Aside0.mk (neA hg (bkA BK429))
          have n12_ := Aside0.mk (neB hg (bkA BK429))
          clear BK418
          clear BK419
          clear BK429
          clear HB
          have BK418 := n0_
          have BK419 := n1_
          have BK429 := n2_
          have HB := n3_
          have BK439 := n4_
          have GW439 := n5_
          have GE439 := n6_
          have NB418_439 := n7_
          have NB439_418 := n8_
          have NB419_439 := n9_
          have NB439_419 := n10_
          have NB429_439 := n11_
          have NB439_429 := n12_
          clear n0_ n1_ n2_ n3_ n4_ n5_ n6_ n7_ n8_ n9_ n10_ n11_ n12_
          clear hb hbox hg
          refine hK.out _ _ ⟨(blk_cell BK418.out 0).trans rfl, (blk_cell BK418.out 1).trans rfl, (blk_cell BK418.out 2).trans rfl, (blk_cell BK418.out 3).trans rfl, (blk_cell BK419.out 0).trans rfl, (blk_cell BK419.out 1).trans rfl⟩ (fun hHeld => ?_)
          clear hK K
          refine norm_ (a' := ?_) ?_ ?_
          rotate_left
          · show Act.put _ (some 7) _ = _
            simp only [Act.put, List.setIfInBounds_toArray, List.set_cons_zero, List.set_cons_succ, i64_w, i32_w]
            rfl
          refine one_ (i := 1) (N := some 19) #[true, true, true, false, false, false, false, false, true, false, false] rfl rfl (one_of HT_.out (by kernel_rfl)) (by decide) (fun K hK => ?_)
          refine goes_ Try.func16 (by kernel_rfl) rfl #[.agg #[.int .i64 a0_0, .int .i64 a0_1, .int .i64 a0_2, .int .i64 a0_3]] (by rfl) rfl rfl (by (try simp only [List.map_toArray, List.map_cons, List.map_nil]); first | done | rfl | (simp only [List.length_drop, List.length_take]; rfl)) ?_
          with_reducible refine (laws_toMatrix.calls a0_0 a0_1 a0_2 a0_3 t430 t431 t432 t433 _ A6.out).mono ?_
          rintro e w25 ⟨rfl, hb⟩
          refine ⟨_, rfl, ?_⟩
          have n0_ := Aside0.mk (blk_below (bkA BK418) hb)
          have n1_ := Aside0.mk (blk_below (bkA BK419) hb)
          have n2_ := Aside0.mk (blk_below (bkA BK429) hb)
          have n3_ := Aside0.mk (blk_below (bkA BK439) hb)
          have n4_ := Aside0.mk (below_step blA hb)
          clear BK418
          clear BK419
          clear BK429
          clear BK439
          clear HB
          have BK418 := n0_
          have BK419 := n1_
          have BK429 := n2_
          have BK439 := n3_
          have HB := n4_
          clear n0_ n1_ n2_ n3_ n4_
          (try clear hb)
          (try clear hb2)
          (try clear hk)
          (try clear hi)
          refine hK.out _ _ ⟨(blk_cell BK418.out 0).trans rfl, (blk_cell BK418.out 1).trans rfl, (blk_cell BK418.out 2).trans rfl, (blk_cell BK418.out 3).trans rfl, (blk_cell BK419.out 0).trans rfl, (blk_cell BK419.out 1).trans rfl⟩ (fun hHeld => ?_)
          clear hK K
          refine norm_ (a' := ?_) ?_ ?_
          rotate_left
          · show Act.put _ (some 19) _ = _
            simp only [Act.put, List.setIfInBounds_toArray, List.set_cons_zero, List.set_cons_succ, i64_w, i32_w]
            rfl
          refine one_ (i := 3) (N := some 21) #[true, true, true, true, false, false, false, false, true, false, false] rfl rfl (one_of HT_.out (by kernel_rfl)) (by decide) (fun K hK => ?_)
          refine goes_ Try.func30 (by kernel_rfl) rfl #[.agg #[.int .i64 a1_0, .int .i64 a1_1]] (by rfl) rfl rfl (by (try simp only [List.map_toArray, List.map_cons, List.map_nil]); first | done | rfl | (simp only [List.length_drop, List.length_take]; rfl)) ?_
          with_reducible refine (laws_toEnd.calls a1_0 a1_1 t434 t435 _ A7.out).mono ?_
          rintro e w26 ⟨rfl, hb⟩
          refine ⟨_, rfl, ?_⟩
          have n0_ := Aside0.mk (blk_below (bkA BK418) hb)
          have n1_ := Aside0.mk (blk_below (bkA BK419) hb)
          have n2_ := Aside0.mk (blk_below (bkA BK429) hb)
          have n3_ := Aside0.mk (blk_below (bkA BK439) hb)
          have n4_ := Aside0.mk (below_step blA hb)
          clear BK418
          clear BK419
          clear BK429
          clear BK439
          clear HB
          have BK418 := n0_
          have BK419 := n1_
          have BK429 := n2_
          have BK439 := n3_
          have HB := n4_
          clear n0_ n1_ n2_ n3_ n4_
          (try clear hb)
          (try clear hb2)
          (try clear hk)
          (try clear hi)
          refine hK.out _ _ ⟨(blk_cell BK418.out 0).trans rfl, (blk_cell BK418.out 1).trans rfl, (blk_cell BK418.out 2).trans rfl, (blk_cell BK418.out 3).trans rfl, (blk_cell BK419.out 0).trans rfl, (blk_cell BK419.out 1).trans rfl⟩ (fun hHeld => ?_)
          clear hK K
          refine norm_ (a' := ?_) ?_ ?_
          rotate_left
          · show Act.put _ (some 21) _ = _
            simp only [Act.put, List.setIfInBounds_toArray, List.set_cons_zero, List.set_cons_succ, i64_w, i32_w]
            rfl
          refine one_ (i := 4) (N := some 22) #[true, true, true, true, true, false, false, false, true, false, false] rfl rfl (one_of HT_.out (by kernel_rfl)) (by decide) (fun K hK => ?_)
          refine goes_ Try.func31 (by kernel_rfl) rfl #[.agg #[.int .i64 t430, .int .i64 t431, .int .i64 t432, .int .i64 t433], .agg #[.int .i64 t434, .int .i64 t435]] (by rfl) rfl rfl (by (try simp only [List.map_toArray, List.map_cons, List.map_nil]); first | done | rfl | (simp only [List.length_drop, List.length_take]; rfl)) ?_
          with_reducible refine (impl_MoveEnd.calls k t430 t431 t432 t433 t434 t435 t436 t437 t438 _ A8.out).mono ?_
          rintro e w27 ⟨rfl, hb⟩
          refine ⟨_, rfl, ?_⟩
          have n0_ := Aside0.mk (blk_below (bkA BK418) hb)
          have n1_ := Aside0.mk (blk_below (bkA BK419) hb)
          have n2_ := Aside0.mk (blk_below (bkA BK429) hb)
          have n3_ := Aside0.mk (blk_below (bkA BK439) hb)
          have n4_ := Aside0.mk (below_step blA hb)
          clear BK418
          clear BK419
          clear BK429
          clear BK439
          clear HB
          have BK418 := n0_
          have BK419 := n1_
          have BK429 := n2_
          have BK439 := n3_
          have HB := n4_
          clear n0_ n1_ n2_ n3_ n4_
          (try clear hb)
          (try clear hb2)
          (try clear hk)
          (try clear hi)
          refine hK.out _ _ ⟨(blk_cell BK418.out 0).trans rfl, (blk_cell BK418.out 1).trans rfl, (blk_cell BK418.out 2).trans rfl, (blk_cell BK418.out 3).trans rfl, (blk_cell BK419.out 0).trans rfl, (blk_cell BK419.out 1).trans rfl⟩ (fun hHeld => ?_)
          clear hK K
          refine norm_ (a' := ?_) ?_ ?_
          rotate_left
          · show Act.put _ (some 22) _ = _
            simp only [Act.put, List.setIfInBounds_toArray, List.set_cons_zero, List.set_cons_succ, i64_w, i32_w]
            rfl
          refine pure_ (i := 5) (N := some 17) (v := ?_) (a' := ?_) #[true, true, true, true, true, true, false, false, true, false, false] rfl rfl (any_of HT_.out (by kernel_rfl)) (fun _ _ _ h => h) (Or.inl ⟨by rfl, ?_⟩) ?_ ?_
          rotate_left
          · intro w'
            go_simp
            with_reducible rfl
          rotate_left
          · simp only [Act.put, List.setIfInBounds_toArray, List.set_cons_zero, List.set_cons_succ, i64_w, i32_w]
            rfl
          refine pure_ (i := 6) (N := some 23) (v := ?_) (a' := ?_) #[true, true, true, true, true, true, true, false, true, false, false] rfl rfl (any_of HT_.out (by kernel_rfl)) (fun _ _ _ h => h) (Or.inl ⟨by rfl, ?_⟩) ?_ ?_
          rotate_left
          · intro w'
            go_simp
            with_reducible rfl
          rotate_left
          · simp only [Act.put, List.setIfInBounds_toArray, List.set_cons_zero, List.set_cons_succ, i64_w, i32_w]
            rfl
          refine pure_ (i := 7) (N := some 24) (v := ?_) (a' := ?_) #[true, true, true, true, true, true, true, true, true, false, false] rfl rfl (any_of HT_.out (by kernel_rfl)) (fun _ _ _ h => h) (Or.inl ⟨by rfl, ?_⟩) ?_ ?_
          rotate_left
          · intro w'
            go_simp
            with_reducible rfl
          rotate_left
          · simp only [Act.put, List.setIfInBounds_toArray, List.set_cons_zero, List.set_cons_succ, i64_w, i32_w]
            rfl
          exact norm_ (by simp only [putAll, Act.put, List.setIfInBounds_toArray, List.set_cons_zero, List.set_cons_succ]) (hCont (gb439) _ ⟨hHeld, (bkA BK418), (bkA BK419), (bkA BK429), (bkA BK439), GW439.out, GE439.out, NB418_439.out, NB439_418.out, NB419_439.out, NB439_419.out, NB429_439.out, NB439_429.out, blA⟩)
      rintro gb439 w28 ⟨hS_, h0_, h1_, h2_, h3_, h4_, h5_, h6_, h7_, h8_, h9_, h10_, h11_, h12_⟩
      have n0_ : Aside0 (w28.heap[gb418]? = some (.cells #[.int .i64 a0_0, .int .i64 a0_1, .int .i64 a0_2, .int .i64 a0_3] 23 (0, 0))) := ⟨h0_⟩
      have n1_ : Aside0 (w28.heap[gb419]? = some (.cells #[.int .i64 a1_0, .int .i64 a1_1] 38 (0, 0))) := ⟨h1_⟩
      have n2_ : Aside0 (w28.heap[gb429]? = some (.cells #[.int .i64 t426, .int .i64 t427] 39 (0, 0))) := ⟨h2_⟩
      have n3_ : Aside0 (w28.heap[gb439]? = some (.cells #[.int .i64 0, .int .i64 0] 39 (0, 0))) := ⟨h3_⟩
      have n4_ : Aside0 (w.heap.size ≤ gb439) := ⟨h4_⟩
      have n5_ : Aside0 (w.heap.size ≤ gb439) := ⟨h5_⟩
      have n6_ : Aside0 (gb418 ≠ gb439) := ⟨h6_⟩
      have n7_ : Aside0 (gb439 ≠ gb418) := ⟨h7_⟩
      have n8_ : Aside0 (gb419 ≠ gb439) := ⟨h8_⟩
      have n9_ : Aside0 (gb439 ≠ gb419) := ⟨h9_⟩
      have n10_ : Aside0 (gb429 ≠ gb439) := ⟨h10_⟩
      have n11_ : Aside0 (gb439 ≠ gb429) := ⟨h11_⟩
      have n12_ : Aside0 (Below w.heap.size w w28) := ⟨h12_⟩
      clear BK418
      clear BK419
      clear BK429
      clear HB
      clear h0_ h1_ h2_ h3_ h4_ h5_ h6_ h7_ h8_ h9_ h10_ h11_ h12_
      have BK418 := n0_
      have BK419 := n1_
      have BK429 := n2_
      have BK439 := n3_
      have GW439 := n4_
      have GE439 := n5_
      have NB418_439 := n6_
      have NB439_418 := n7_
      have NB419_439 := n8_
      have NB439_419 := n9_
      have NB429_439 := n10_
      have NB439_429 := n11_
      have HB := n12_
      clear n0_ n1_ n2_ n3_ n4_ n5_ n6_ n7_ n8_ n9_ n10_ n11_ n12_
      have hHeld : w28.cell? ⟨gb418, 0, none⟩ = some (.int .i64 a0_0) ∧ w28.cell? ⟨gb418, 1, none⟩ = some (.int .i64 a0_1) ∧ w28.cell? ⟨gb418, 2, none⟩ = some (.int .i64 a0_2) ∧ w28.cell? ⟨gb418, 3, none⟩ = some (.int .i64 a0_3) ∧ w28.cell? ⟨gb419, 0, none⟩ = some (.int .i64 a1_0) ∧ w28.cell? ⟨gb419, 1, none⟩ = some (.int .i64 a1_1) := hS_
      refine norm_ (a' := ?_) ?_ ?_
      rotate_left
      · simp only [putAll, Act.put, List.setIfInBounds_toArray, List.set_cons_zero, List.set_cons_succ]
        rfl
      refine one_ (i := 9) (N := none) #[true, true, true, true, true, true, true, true, true, true, false] rfl rfl (one_of HT_.out (by kernel_rfl)) (by decide) (fun K hK => ?_)
      have hs29 : w28.cell? ⟨gb439, 0, none⟩ = some (.int .i64 0) := (blk_cell BK439.out 0).trans rfl
      have hfs29 := blk_frozen BK439.out 0
      have hns29_0 := NB418_439.out
      have hns29_1 := NB419_439.out
      have hns29_2 := NB429_439.out
      have hms29_0 := NB439_418.out
      have hms29_1 := NB439_419.out
      have hms29_2 := NB439_429.out
      have hs30 : w28.cell? ⟨gb439, 1, none⟩ = some (.int .i64 0) := (blk_cell BK439.out 1).trans rfl
      have hfs30 := blk_frozen BK439.out 1
      have hns30_0 := NB418_439.out
      have hns30_1 := NB419_439.out
      have hns30_2 := NB429_439.out
      have hms30_0 := NB439_418.out
      have hms30_1 := NB439_419.out
      have hms30_2 := NB439_429.out
      refine skip_ (w1 := ?_) (by rfl) rfl ?_ ?_
      rotate_left
      · go_simp
        rfl
      refine hK.out _ _ ⟨((cell_far (p := ⟨gb439, _, none⟩) NB418_439.out _).trans (((cell_far (p := ⟨gb439, _, none⟩) NB418_439.out _).trans (hHeld.1)))), ((cell_far (p := ⟨gb439, _, none⟩) NB418_439.out _).trans (((cell_far (p := ⟨gb439, _, none⟩) NB418_439.out _).trans (hHeld.2.1)))), ((cell_far (p := ⟨gb439, _, none⟩) NB418_439.out _).trans (((cell_far (p := ⟨gb439, _, none⟩) NB418_439.out _).trans (hHeld.2.2.1)))), ((cell_far (p := ⟨gb439, _, none⟩) NB418_439.out _).trans (((cell_far (p := ⟨gb439, _, none⟩) NB418_439.out _).trans (hHeld.2.2.2.1)))), ((cell_far (p := ⟨gb439, _, none⟩) NB419_439.out _).trans (((cell_far (p := ⟨gb439, _, none⟩) NB419_439.out _).trans (hHeld.2.2.2.2.1)))), ((cell_far (p := ⟨gb439, _, none⟩) NB419_439.out _).trans (((cell_far (p := ⟨gb439, _, none⟩) NB419_439.out _).trans (hHeld.2.2.2.2.2))))⟩ (fun hHeld => ?_)
      clear hK K
      refine pure_ (i := 10) (N := some 8) (v := ?_) (a' := ?_) #[true, true, true, true, true, true, true, true, true, true, true] rfl rfl (any_of HT_.out (by kernel_rfl)) (fun _ _ _ h => h) (Or.inl ⟨by rfl, ?_⟩) ?_ ?_
      rotate_left
      · intro w'
        go_simp
        with_reducible rfl
      rotate_left
      · simp only [Act.put, List.setIfInBounds_toArray, List.set_cons_zero, List.set_cons_succ, i64_w, i32_w]
        rfl
      refine done_ (done_of HT_.out (by kernel_rfl)) ?_
      have hnb31 := NB439_418.out
      have hnc31 := NB418_439.out
      have hnb32 := NB439_419.out
      have hnc32 := NB419_439.out
      have hnb33 := NB439_429.out
      have hnc33 := NB429_439.out
      have hcz34_0 : w28.cell? ⟨gb439, 0, none⟩ = some (.int .i64 0) := (blk_cell BK439.out 0).trans rfl
      have hcz34_1 : w28.cell? ⟨gb439, 1, none⟩ = some (.int .i64 0) := (blk_cell BK439.out 1).trans rfl
      have hfz34_0 := blk_frozen BK439.out 0
      have hfz34_1 := blk_frozen BK439.out 1
      have hnb35 := NB429_418.out
      have hnc35 := NB418_429.out
      have hnb36 := NB429_419.out
      have hnc36 := NB419_429.out
      have hcz37_0 : w28.cell? ⟨gb429, 0, none⟩ = some (.int .i64 t426) := (blk_cell BK429.out 0).trans rfl
      have hcz37_1 : w28.cell? ⟨gb429, 1, none⟩ = some (.int .i64 t427) := (blk_cell BK429.out 1).trans rfl
      have hfz37_0 := blk_frozen BK429.out 0
      have hfz37_1 := blk_frozen BK429.out 1
      try go_wp2_with (first | ((with_reducible refine gate_callee (f := 32) rfl ?_); refine goesL_ (some 27) rfl rfl Try.func32 (by kernel_rfl) rfl #[.agg #[.int .i64 t436, .int .i64 t437], .agg #[.int .i64 t426, .int .i64 t427]] rfl (by (try simp only [List.map_toArray, List.map_cons, List.map_nil]); first | done | rfl | (simp only [List.length_drop, List.length_take]; rfl)) ?_; (with_reducible refine (laws_eqEnd.calls t436 t437 t426 t427 true _ A9.out).mono ?_); rintro e w38 ⟨rfl, hb⟩; refine ⟨_, rfl, ?_⟩; have n0_ := Aside0.mk (blk_below (g := gb418) (o := .cells #[.int .i64 a0_0, .int .i64 a0_1, .int .i64 a0_2, .int .i64 a0_3] 23 (0, 0)) (by (with_reducible repeat (first | refine blk_drewN ?_ _ | refine blk_drew ?_ | refine blk_alloc ?_ _)); refine blk_far ?_ NB418_439.out _; (with_reducible repeat (first | refine blk_drewN ?_ _ | refine blk_drew ?_ | refine blk_alloc ?_ _)); refine blk_far ?_ NB418_439.out _; (with_reducible repeat (first | refine blk_drewN ?_ _ | refine blk_drew ?_ | refine blk_alloc ?_ _)); exact BK418.out) hb); have n1_ := Aside0.mk (blk_below (g := gb419) (o := .cells #[.int .i64 a1_0, .int .i64 a1_1] 38 (0, 0)) (by (with_reducible repeat (first | refine blk_drewN ?_ _ | refine blk_drew ?_ | refine blk_alloc ?_ _)); refine blk_far ?_ NB419_439.out _; (with_reducible repeat (first | refine blk_drewN ?_ _ | refine blk_drew ?_ | refine blk_alloc ?_ _)); refine blk_far ?_ NB419_439.out _; (with_reducible repeat (first | refine blk_drewN ?_ _ | refine blk_drew ?_ | refine blk_alloc ?_ _)); exact BK419.out) hb); have n2_ := Aside0.mk (blk_below (g := gb429) (o := .cells #[.int .i64 t426, .int .i64 t427] 39 (0, 0)) (by (with_reducible repeat (first | refine blk_drewN ?_ _ | refine blk_drew ?_ | refine blk_alloc ?_ _)); refine blk_far ?_ NB429_439.out _; (with_reducible repeat (first | refine blk_drewN ?_ _ | refine blk_drew ?_ | refine blk_alloc ?_ _)); refine blk_far ?_ NB429_439.out _; (with_reducible repeat (first | refine blk_drewN ?_ _ | refine blk_drew ?_ | refine blk_alloc ?_ _)); exact BK429.out) hb); have n3_ := Aside0.mk (blk_below (g := gb439) (o := .cells #[.int .i64 t436, .int .i64 t437] 39 (0, 0)) (by (with_reducible repeat (first | refine blk_drewN ?_ _ | refine blk_drew ?_ | refine blk_alloc ?_ _)); refine blk_put (cs := #[.int .i64 t436, .int .i64 0]) ?_ 1 _ rfl; (with_reducible repeat (first | refine blk_drewN ?_ _ | refine blk_drew ?_ | refine blk_alloc ?_ _)); refine blk_put (cs := #[.int .i64 0, .int .i64 0]) ?_ 0 _ rfl; (with_reducible repeat (first | refine blk_drewN ?_ _ | refine blk_drew ?_ | refine blk_alloc ?_ _)); exact BK439.out) hb); have n4_ := Aside0.mk (below_step blA hb); clear BK418; clear BK419; clear BK429; clear BK439; clear HB; have BK418 := n0_; have BK419 := n1_; have BK429 := n2_; have BK439 := n3_; have HB := n4_; clear n0_ n1_ n2_ n3_ n4_; (try clear hb); (try clear hb2); (try clear hk); (try clear hi)))
      go_ret
      exact ⟨by first | rfl | (simp [errW_none, errW_some] <;> rfl) | (simp [*, errW_none, errW_some] <;> rfl), blA⟩
    · rw [if_neg c11] at H
      exact absurd H (by simp)
  · replace c10 := Bool.eq_false_iff.mpr c10
    subst c10
    have H1 : (none) = some r := by rw [if_neg (show ¬ (false = true) by decide)] at H; exact H
    clear H
    have H := H1
    clear H1
    exact absurd H (by simp)
end Go.Proofs.Ytmhajnfdbjnegaa.PAll
