-- turned for this claim out of the kit's print: the same functions, packed anew
import Derived.Test.YtmhajnfdbjnegaaQx
import Derived.Test.YtmhajnfdbjnegaaQLeqMatrix
import Derived.Test.YtmhajnfdbjnegaaQimplIsMatrix
import Derived.Test.YtmhajnfdbjnegaaQimplMultiplyMatrices
namespace Go.Proofs.Ytmhajnfdbjnegaa.PAll
open Go.RowKit Go.Proofs.YtmhajnfdbjnegaaW.PrintWords Go.Proofs.YtmhajnfdbjnegaaW.PrintLast Go.Proofs.YtmhajnfdbjnegaaW.PrintMore
attribute [local go_sem] Go.Proofs.Ytmhajnfdbjnegaa.Aux.setCell_drewN Go.Proofs.Ytmhajnfdbjnegaa.Aux.isSome_setCell max2_int min2_int max_two min_two max_three min_three max_four min_four   -- for this text's walks alone
set_option linter.unusedVariables false
set_option linter.unusedSimpArgs false
/-! ### laws_FnExactMultiplyMatrices: function 10 -/
def laws_FnExactMultiplyMatrices.f (k : Nat) (a0_0 : Int) (a0_1 : Int) (a0_2 : Int) (a0_3 : Int) (a1_0 : Int) (a1_1 : Int) (a1_2 : Int) (a1_3 : Int) : Option (Bool) := (laws_toMatrix.f a0_0 a0_1 a0_2 a0_3).bind fun bt473 => ((laws_toMatrix.f a1_0 a1_1 a1_2 a1_3).bind fun bt477 => ((spec_MultiplyMatrices.f k bt473.1 bt473.2.1 bt473.2.2.1 bt473.2.2.2 bt477.1 bt477.2.1 bt477.2.2.1 bt477.2.2.2).bind fun bt481 => ((laws_toMatrix.f a0_0 a0_1 a0_2 a0_3).bind fun bt487 => ((laws_toMatrix.f a1_0 a1_1 a1_2 a1_3).bind fun bt491 => ((impl_MultiplyMatrices.f k bt487.1 bt487.2.1 bt487.2.2.1 bt487.2.2.2 bt491.1 bt491.2.1 bt491.2.2.1 bt491.2.2.2).bind fun bt495 => ((laws_eqMatrix.f bt495.1 bt495.2.1 bt495.2.2.1 bt495.2.2.2.1 bt481.1 bt481.2.1 bt481.2.2.1 bt481.2.2.2.1).bind fun t501 => (if t501 = true then (if bt495.2.2.2.2 = bt481.2.2.2.2 then (some true) else (none)) else (none))))))))
theorem laws_FnExactMultiplyMatrices.mono : ∀ a0 a1 a2 a3 a4 a5 a6 a7 k, LeO (laws_FnExactMultiplyMatrices.f k a0 a1 a2 a3 a4 a5 a6 a7) (laws_FnExactMultiplyMatrices.f (k + 1) a0 a1 a2 a3 a4 a5 a6 a7) := by
  intro a0 a1 a2 a3 a4 a5 a6 a7 k
  unfold laws_FnExactMultiplyMatrices.f
  repeat' first
      | (with_reducible exact impl_MultiplyMatrices.mono _ _ _ _ _ _ _ _ _)
      | (with_reducible exact spec_MultiplyMatrices.mono _ _ _ _ _ _ _ _ _)
      | (with_reducible exact LeO.refl _)
      | (with_reducible exact LeO.none _)
      | (with_reducible refine LeO.ite ?_ ?_)
      | (with_reducible refine LeO.bind ?_ (fun _ => ?_))
      | exact impl_MultiplyMatrices.mono _ _ _ _ _ _ _ _ _
      | exact spec_MultiplyMatrices.mono _ _ _ _ _ _ _ _ _
      | exact LeO.none _
      | refine LeO.ite ?_ ?_
      | refine LeO.bind ?_ (fun _ => ?_)
def laws_FnExactMultiplyMatrices.T1 : Bool × List (List Nat × List Nat) := (true, [([], []), ([0], [0]), ([], []), ([2, 1], [2]), ([1, 3, 3], [1, 3]), ([4], [4]), ([5], [5]), ([5], [5]), ([], []), ([8, 6, 4, 0, 1, 2, 3, 4, 5, 6, 8], [6, 8]), ([7, 9, 0, 1, 2, 3, 4, 5, 6, 7, 8, 9], [7])])
def laws_FnExactMultiplyMatrices.B1 : List Nat := [0, 1, 0, 7, 15, 31, 63, 63, 0, 383, 1023]
theorem laws_FnExactMultiplyMatrices.tab1 : rtab .any (opsOf Try.f10 1) = laws_FnExactMultiplyMatrices.T1 := by kernel_rfl
theorem laws_FnExactMultiplyMatrices.bits1 : waitsOk laws_FnExactMultiplyMatrices.T1.2 laws_FnExactMultiplyMatrices.B1 = true := by kernel_rfl
def laws_FnExactMultiplyMatrices.T2 : Bool × List (List Nat × List Nat) := (true, [([], []), ([0], [0]), ([], []), ([2, 1], [2]), ([1, 3, 3], [1, 3]), ([4], [4]), ([5], [5]), ([5], [5]), ([], []), ([8, 6, 4, 0, 1, 2, 3, 4, 5, 6, 8], [6, 8]), ([7, 9, 0, 1, 2, 3, 4, 5, 6, 7, 8, 9], [7])])
def laws_FnExactMultiplyMatrices.B2 : List Nat := [0, 1, 0, 7, 15, 31, 63, 63, 0, 383, 1023]
theorem laws_FnExactMultiplyMatrices.tab2 : rtab .any (opsOf Try.f10 2) = laws_FnExactMultiplyMatrices.T2 := by kernel_rfl
theorem laws_FnExactMultiplyMatrices.bits2 : waitsOk laws_FnExactMultiplyMatrices.T2.2 laws_FnExactMultiplyMatrices.B2 = true := by kernel_rfl
set_option maxHeartbeats 8000000 in
set_option maxRecDepth 100000 in
theorem laws_FnExactMultiplyMatrices.calls (k : Nat) (a0_0 : Int) (a0_1 : Int) (a0_2 : Int) (a0_3 : Int) (a1_0 : Int) (a1_1 : Int) (a1_2 : Int) (a1_3 : Int) (r : Bool) (w : World) (h : laws_FnExactMultiplyMatrices.f k a0_0 a0_1 a0_2 a0_3 a1_0 a1_1 a1_2 a1_3 = some r) :
    Calls Try.prog 10 #[.agg #[.int .i64 a0_0, .int .i64 a0_1, .int .i64 a0_2, .int .i64 a0_3], .agg #[.int .i64 a1_0, .int .i64 a1_1, .int .i64 a1_2, .int .i64 a1_3]] w fun e w' => e = .returned (.bool r) ∧ Below w.heap.size w w' := by
  have hu23 := Try.underlying23
  have hu25 := Try.underlying25
  have HB := Aside0.mk (Below.refl w.heap.size w)
  have H : ((laws_toMatrix.f a0_0 a0_1 a0_2 a0_3).bind fun bt473 => ((laws_toMatrix.f a1_0 a1_1 a1_2 a1_3).bind fun bt477 => ((spec_MultiplyMatrices.f k bt473.1 bt473.2.1 bt473.2.2.1 bt473.2.2.2 bt477.1 bt477.2.1 bt477.2.2.1 bt477.2.2.2).bind fun bt481 => ((laws_toMatrix.f a0_0 a0_1 a0_2 a0_3).bind fun bt487 => ((laws_toMatrix.f a1_0 a1_1 a1_2 a1_3).bind fun bt491 => ((impl_MultiplyMatrices.f k bt487.1 bt487.2.1 bt487.2.2.1 bt487.2.2.2 bt491.1 bt491.2.1 bt491.2.2.1 bt491.2.2.2).bind fun bt495 => ((laws_eqMatrix.f bt495.1 bt495.2.1 bt495.2.2.1 bt495.2.2.2.1 bt481.1 bt481.2.1 bt481.2.2.1 bt481.2.2.2.1).bind fun t501 => (if t501 = true then (if bt495.2.2.2.2 = bt481.2.2.2.2 then (some true) else (none)) else (none))))))))) = some r := h
  clear h
  replace H := Option.bind_eq_some_iff.mp H
  obtain ⟨⟨t473, t474, t475, t476⟩, A30, H⟩ := H
  replace H : ((laws_toMatrix.f a1_0 a1_1 a1_2 a1_3).bind fun bt477 => ((spec_MultiplyMatrices.f k t473 t474 t475 t476 bt477.1 bt477.2.1 bt477.2.2.1 bt477.2.2.2).bind fun bt481 => ((laws_toMatrix.f a0_0 a0_1 a0_2 a0_3).bind fun bt487 => ((laws_toMatrix.f a1_0 a1_1 a1_2 a1_3).bind fun bt491 => ((impl_MultiplyMatrices.f k bt487.1 bt487.2.1 bt487.2.2.1 bt487.2.2.2 bt491.1 bt491.2.1 bt491.2.2.1 bt491.2.2.2).bind fun bt495 => ((laws_eqMatrix.f bt495.1 bt495.2.1 bt495.2.2.1 bt495.2.2.2.1 bt481.1 bt481.2.1 bt481.2.2.1 bt481.2.2.2.1).bind fun t501 => (if t501 = true then (if bt495.2.2.2.2 = bt481.2.2.2.2 then (some true) else (none)) else (none)))))))) = some r := H
  have A3 := Aside0.mk A30
  clear A30
  replace H := Option.bind_eq_some_iff.mp H
  obtain ⟨⟨t477, t478, t479, t480⟩, A40, H⟩ := H
  replace H : ((spec_MultiplyMatrices.f k t473 t474 t475 t476 t477 t478 t479 t480).bind fun bt481 => ((laws_toMatrix.f a0_0 a0_1 a0_2 a0_3).bind fun bt487 => ((laws_toMatrix.f a1_0 a1_1 a1_2 a1_3).bind fun bt491 => ((impl_MultiplyMatrices.f k bt487.1 bt487.2.1 bt487.2.2.1 bt487.2.2.2 bt491.1 bt491.2.1 bt491.2.2.1 bt491.2.2.2).bind fun bt495 => ((laws_eqMatrix.f bt495.1 bt495.2.1 bt495.2.2.1 bt495.2.2.2.1 bt481.1 bt481.2.1 bt481.2.2.1 bt481.2.2.2.1).bind fun t501 => (if t501 = true then (if bt495.2.2.2.2 = bt481.2.2.2.2 then (some true) else (none)) else (none))))))) = some r := H
  have A4 := Aside0.mk A40
  clear A40
  replace H := Option.bind_eq_some_iff.mp H
  obtain ⟨⟨t481, t482, t483, t484, t485⟩, A50, H⟩ := H
  replace H : ((laws_toMatrix.f a0_0 a0_1 a0_2 a0_3).bind fun bt487 => ((laws_toMatrix.f a1_0 a1_1 a1_2 a1_3).bind fun bt491 => ((impl_MultiplyMatrices.f k bt487.1 bt487.2.1 bt487.2.2.1 bt487.2.2.2 bt491.1 bt491.2.1 bt491.2.2.1 bt491.2.2.2).bind fun bt495 => ((laws_eqMatrix.f bt495.1 bt495.2.1 bt495.2.2.1 bt495.2.2.2.1 t481 t482 t483 t484).bind fun t501 => (if t501 = true then (if bt495.2.2.2.2 = t485 then (some true) else (none)) else (none)))))) = some r := H
  have A5 := Aside0.mk A50
  clear A50
  replace H := Option.bind_eq_some_iff.mp H
  obtain ⟨⟨t487, t488, t489, t490⟩, A60, H⟩ := H
  replace H : ((laws_toMatrix.f a1_0 a1_1 a1_2 a1_3).bind fun bt491 => ((impl_MultiplyMatrices.f k t487 t488 t489 t490 bt491.1 bt491.2.1 bt491.2.2.1 bt491.2.2.2).bind fun bt495 => ((laws_eqMatrix.f bt495.1 bt495.2.1 bt495.2.2.1 bt495.2.2.2.1 t481 t482 t483 t484).bind fun t501 => (if t501 = true then (if bt495.2.2.2.2 = t485 then (some true) else (none)) else (none))))) = some r := H
  have A6 := Aside0.mk A60
  clear A60
  replace H := Option.bind_eq_some_iff.mp H
  obtain ⟨⟨t491, t492, t493, t494⟩, A70, H⟩ := H
  replace H : ((impl_MultiplyMatrices.f k t487 t488 t489 t490 t491 t492 t493 t494).bind fun bt495 => ((laws_eqMatrix.f bt495.1 bt495.2.1 bt495.2.2.1 bt495.2.2.2.1 t481 t482 t483 t484).bind fun t501 => (if t501 = true then (if bt495.2.2.2.2 = t485 then (some true) else (none)) else (none)))) = some r := H
  have A7 := Aside0.mk A70
  clear A70
  replace H := Option.bind_eq_some_iff.mp H
  obtain ⟨⟨t495, t496, t497, t498, t499⟩, A80, H⟩ := H
  replace H : ((laws_eqMatrix.f t495 t496 t497 t498 t481 t482 t483 t484).bind fun t501 => (if t501 = true then (if t499 = t485 then (some true) else (none)) else (none))) = some r := H
  have A8 := Aside0.mk A80
  clear A80
  replace H := Option.bind_eq_some_iff.mp H
  obtain ⟨t501, A90, H⟩ := H
  replace H : (if t501 = true then (if t499 = t485 then (some true) else (none)) else (none)) = some r := H
  have A9 := Aside0.mk A90
  clear A90
  by_cases c10 : t501 = true
  · subst c10
    have H1 : (if t499 = t485 then (some true) else (none)) = some r := by rw [if_pos rfl] at H; exact H
    clear H
    have H := H1
    clear H1
    by_cases c11 : t499 = t485
    · rw [if_pos c11] at H
      have c11b0 : (t499 == t485) = true := beq_iff_eq.mpr c11
      have c11b1 : (t499 != t485) = false := bne_eq_false_iff_eq.mpr c11
      clear c11
      obtain rfl := Option.some.inj H
      go_enter Try.func10, Try.ntmps10
      try go_wp2_with (first | ((with_reducible refine gate_dst (N := 2) rfl ?_); refine box_event ?hg (N := 2) ?hd (cs := #[.int .i64 a0_0, .int .i64 a0_1, .int .i64 a0_2, .int .i64 a0_3]) (t := 23) ?hr ?_; (case hd => rfl); (case hg => rfl); (case hr => first | (go_simp; done) | (go_simp; rfl)); intro gb471 hg w12 hbox hb; have n0_ := Aside0.mk (below_step blA hb); have n1_ := Aside0.mk (hbox); have n2_ := Aside0.mk (szA hg blA); have n3_ := Aside0.mk (szA hg blA); clear HB; have HB := n0_; have BK471 := n1_; have GW471 := n2_; have GE471 := n3_; clear n0_ n1_ n2_ n3_; clear hb hbox hg) | ((with_reducible refine gate_dst (N := 3) rfl ?_); refine box_event ?hg (N := 3) ?hd (cs := #[.int .i64 a1_0, .int .i64 a1_1, .int .i64 a1_2, .int .i64 a1_3]) (t := 23) ?hr ?_; (case hd => rfl); (case hg => rfl); (case hr => first | (go_simp; done) | (go_simp; rfl)); intro gb472 hg w13 hbox hb; have n0_ := Aside0.mk (blk_below (bkA BK471) hb); have n1_ := Aside0.mk (below_step blA hb); have n2_ := Aside0.mk (hbox); have n3_ := Aside0.mk (szA hg blA); have n4_ := Aside0.mk (szA hg blA); have n5_ := Aside0.mk (neA hg (bkA BK471)); have n6_ := Aside0.mk (neB hg (bkA BK471)); clear BK471; clear HB; have BK471 := n0_; have HB := n1_; have BK472 := n2_; have GW472 := n3_; have GE472 := n4_; have NB471_472 := n5_; have NB472_471 := n6_; clear n0_ n1_ n2_ n3_ n4_ n5_ n6_; clear hb hbox hg))
      have n0_ := Aside0.mk (blk_drew BK471.out)
      have n1_ := Aside0.mk (blk_drew BK472.out)
      have n2_ := Aside0.mk (below_drew1 HB.out)
      clear BK471
      clear BK472
      clear HB
      have BK471 := n0_
      have BK472 := n1_
      have HB := n2_
      clear n0_ n1_ n2_
      refine start_ (n := 11) (S := fun w' => w'.cell? ⟨gb471, 0, none⟩ = some (.int .i64 a0_0) ∧ w'.cell? ⟨gb471, 1, none⟩ = some (.int .i64 a0_1) ∧ w'.cell? ⟨gb471, 2, none⟩ = some (.int .i64 a0_2) ∧ w'.cell? ⟨gb471, 3, none⟩ = some (.int .i64 a0_3) ∧ w'.cell? ⟨gb472, 0, none⟩ = some (.int .i64 a1_0) ∧ w'.cell? ⟨gb472, 1, none⟩ = some (.int .i64 a1_1) ∧ w'.cell? ⟨gb472, 2, none⟩ = some (.int .i64 a1_2) ∧ w'.cell? ⟨gb472, 3, none⟩ = some (.int .i64 a1_3)) (ds := []) #[false, false, false, false, false, false, false, false, false, false, false] (by kernel_rfl) rfl rfl ⟨(blk_cell BK471.out 0).trans rfl, (blk_cell BK471.out 1).trans rfl, (blk_cell BK471.out 2).trans rfl, (blk_cell BK471.out 3).trans rfl, (blk_cell BK472.out 0).trans rfl, (blk_cell BK472.out 1).trans rfl, (blk_cell BK472.out 2).trans rfl, (blk_cell BK472.out 3).trans rfl⟩ (fun hHeld => ?_); refine with_tabW laws_FnExactMultiplyMatrices.tab1 laws_FnExactMultiplyMatrices.bits1 (fun HT_ HW_ => ?_)
      generalize w13.drew = w14 at BK471 BK472 HB hHeld ⊢
      refine take_ (i := 0) (N := some 10) (v := ?_) (a' := ?_) #[true, false, false, false, false, false, false, false, false, false, false] rfl rfl (take_ofW HT_.out HW_.out (by kernel_rfl)) (fun _ _ _ h => h) (Or.inl ⟨by rfl, ?_⟩) hHeld ?_ ?_
      rotate_left
      · rintro w' ⟨s0, s1, s2, s3, s4, s5, s6, s7⟩
        go_simp
        with_reducible rfl
      rotate_left
      · simp only [Act.put, List.setIfInBounds_toArray, List.set_cons_zero, List.set_cons_succ, i64_w, i32_w]
        rfl
      refine take_ (i := 2) (N := some 12) (v := ?_) (a' := ?_) #[true, false, true, false, false, false, false, false, false, false, false] rfl rfl (take_ofW HT_.out HW_.out (by kernel_rfl)) (fun _ _ _ h => h) (Or.inl ⟨by rfl, ?_⟩) hHeld ?_ ?_
      rotate_left
      · rintro w' ⟨s0, s1, s2, s3, s4, s5, s6, s7⟩
        go_simp
        with_reducible rfl
      rotate_left
      · simp only [Act.put, List.setIfInBounds_toArray, List.set_cons_zero, List.set_cons_succ, i64_w, i32_w]
        rfl
      refine join_ (σ := Nat) 2 #[true, true, true, true, true, true, true, true, true, false, false] (fun s_ => [(11, .agg #[.int .i64 t473, .int .i64 t474, .int .i64 t475, .int .i64 t476]), (13, .agg #[.int .i64 t477, .int .i64 t478, .int .i64 t479, .int .i64 t480]), (14, .tuple #[.agg #[.int .i64 t481, .int .i64 t482, .int .i64 t483, .int .i64 t484], .int .i64 t485]), (5, .pointer (some ⟨s_, 0, none⟩)), (9, .tuple #[.agg #[.int .i64 t481, .int .i64 t482, .int .i64 t483, .int .i64 t484], .int .i64 t485]), (15, .agg #[.int .i64 t481, .int .i64 t482, .int .i64 t483, .int .i64 t484]), (16, .int .i64 t485)]) (fun s_ w' => (w'.cell? ⟨gb471, 0, none⟩ = some (.int .i64 a0_0) ∧ w'.cell? ⟨gb471, 1, none⟩ = some (.int .i64 a0_1) ∧ w'.cell? ⟨gb471, 2, none⟩ = some (.int .i64 a0_2) ∧ w'.cell? ⟨gb471, 3, none⟩ = some (.int .i64 a0_3) ∧ w'.cell? ⟨gb472, 0, none⟩ = some (.int .i64 a1_0) ∧ w'.cell? ⟨gb472, 1, none⟩ = some (.int .i64 a1_1) ∧ w'.cell? ⟨gb472, 2, none⟩ = some (.int .i64 a1_2) ∧ w'.cell? ⟨gb472, 3, none⟩ = some (.int .i64 a1_3)) ∧ (w'.heap[gb471]? = some (.cells #[.int .i64 a0_0, .int .i64 a0_1, .int .i64 a0_2, .int .i64 a0_3] 23 (0, 0))) ∧ (w'.heap[gb472]? = some (.cells #[.int .i64 a1_0, .int .i64 a1_1, .int .i64 a1_2, .int .i64 a1_3] 23 (0, 0))) ∧ (w'.heap[s_]? = some (.cells #[.int .i64 0, .int .i64 0, .int .i64 0, .int .i64 0] 25 (0, 0))) ∧ (w.heap.size ≤ s_) ∧ (w.heap.size ≤ s_) ∧ (gb471 ≠ s_) ∧ (s_ ≠ gb471) ∧ (gb472 ≠ s_) ∧ (s_ ≠ gb472) ∧ (Below w.heap.size w w')) ?_ ?_
      rotate_left
      · intro hCont
        refine two_ (i := 1) (j := 8) (Ni := some 11) (Nj := some 5) #[true, true, true, false, false, false, false, false, false, false, false] #[true, false, true, false, false, false, false, false, true, false, false] rfl rfl rfl rfl (two_of HT_.out (by kernel_rfl)) (by decide) (by decide) (fun K hK => ?_) (fun K hK => ?_)
        · skip
          refine goes_ Try.func16 (by kernel_rfl) rfl #[.agg #[.int .i64 a0_0, .int .i64 a0_1, .int .i64 a0_2, .int .i64 a0_3]] (by rfl) rfl rfl (by (try simp only [List.map_toArray, List.map_cons, List.map_nil]); first | done | rfl | (simp only [List.length_drop, List.length_take]; rfl)) ?_
          with_reducible refine (laws_toMatrix.calls a0_0 a0_1 a0_2 a0_3 t473 t474 t475 t476 _ A3.out).mono ?_
          rintro e w15 ⟨rfl, hb⟩
          refine ⟨_, rfl, ?_⟩
          have n0_ := Aside0.mk (blk_below (bkA BK471) hb)
          have n1_ := Aside0.mk (blk_below (bkA BK472) hb)
          have n2_ := Aside0.mk (below_step blA hb)
          clear BK471
          clear BK472
          clear HB
          have BK471 := n0_
          have BK472 := n1_
          have HB := n2_
          clear n0_ n1_ n2_
          (try clear hb)
          (try clear hb2)
          (try clear hk)
          (try clear hi)
          refine hK.out _ _ ⟨(blk_cell BK471.out 0).trans rfl, (blk_cell BK471.out 1).trans rfl, (blk_cell BK471.out 2).trans rfl, (blk_cell BK471.out 3).trans rfl, (blk_cell BK472.out 0).trans rfl, (blk_cell BK472.out 1).trans rfl, (blk_cell BK472.out 2).trans rfl, (blk_cell BK472.out 3).trans rfl⟩ (fun hHeld => ?_)
          clear hK K
          refine norm_ (a' := ?_) ?_ ?_
          rotate_left
          · show Act.put _ (some 11) _ = _
            simp only [Act.put, List.setIfInBounds_toArray, List.set_cons_zero, List.set_cons_succ, i64_w, i32_w]
            rfl
          refine two_ (i := 3) (j := 8) (Ni := some 13) (Nj := some 5) #[true, true, true, true, false, false, false, false, false, false, false] #[true, true, true, false, false, false, false, false, true, false, false] rfl rfl rfl rfl (two_of HT_.out (by kernel_rfl)) (by decide) (by decide) (fun K hK => ?_) (fun K hK => ?_)
          · skip
            refine goes_ Try.func16 (by kernel_rfl) rfl #[.agg #[.int .i64 a1_0, .int .i64 a1_1, .int .i64 a1_2, .int .i64 a1_3]] (by rfl) rfl rfl (by (try simp only [List.map_toArray, List.map_cons, List.map_nil]); first | done | rfl | (simp only [List.length_drop, List.length_take]; rfl)) ?_
            with_reducible refine (laws_toMatrix.calls a1_0 a1_1 a1_2 a1_3 t477 t478 t479 t480 _ A4.out).mono ?_
            rintro e w16 ⟨rfl, hb⟩
            refine ⟨_, rfl, ?_⟩
            have n0_ := Aside0.mk (blk_below (bkA BK471) hb)
            have n1_ := Aside0.mk (blk_below (bkA BK472) hb)
            have n2_ := Aside0.mk (below_step blA hb)
            clear BK471
            clear BK472
            clear HB
            have BK471 := n0_
            have BK472 := n1_
            have HB := n2_
            clear n0_ n1_ n2_
            (try clear hb)
            (try clear hb2)
            (try clear hk)
            (try clear hi)
            refine hK.out _ _ ⟨(blk_cell BK471.out 0).trans rfl, (blk_cell BK471.out 1).trans rfl, (blk_cell BK471.out 2).trans rfl, (blk_cell BK471.out 3).trans rfl, (blk_cell BK472.out 0).trans rfl, (blk_cell BK472.out 1).trans rfl, (blk_cell BK472.out 2).trans rfl, (blk_cell BK472.out 3).trans rfl⟩ (fun hHeld => ?_)
            clear hK K
            refine norm_ (a' := ?_) ?_ ?_
            rotate_left
            · show Act.put _ (some 13) _ = _
              simp only [Act.put, List.setIfInBounds_toArray, List.set_cons_zero, List.set_cons_succ, i64_w, i32_w]
              rfl
            refine two_ (i := 4) (j := 8) (Ni := some 14) (Nj := some 5) #[true, true, true, true, true, false, false, false, false, false, false] #[true, true, true, true, false, false, false, false, true, false, false] rfl rfl rfl rfl (two_of HT_.out (by kernel_rfl)) (by decide) (by decide) (fun K hK => ?_) (fun K hK => ?_)
            · skip
              refine goes_ Try.func33 (by kernel_rfl) rfl #[.agg #[.int .i64 t473, .int .i64 t474, .int .i64 t475, .int .i64 t476], .agg #[.int .i64 t477, .int .i64 t478, .int .i64 t479, .int .i64 t480]] (by rfl) rfl rfl (by (try simp only [List.map_toArray, List.map_cons, List.map_nil]); first | done | rfl | (simp only [List.length_drop, List.length_take]; rfl)) ?_
              with_reducible refine (spec_MultiplyMatrices.calls k t473 t474 t475 t476 t477 t478 t479 t480 t481 t482 t483 t484 t485 _ A5.out).mono ?_
              rintro e w17 ⟨rfl, hb⟩
              refine ⟨_, rfl, ?_⟩
              have n0_ := Aside0.mk (blk_below (bkA BK471) hb)
              have n1_ := Aside0.mk (blk_below (bkA BK472) hb)
              have n2_ := Aside0.mk (below_step blA hb)
              clear BK471
              clear BK472
              clear HB
              have BK471 := n0_
              have BK472 := n1_
              have HB := n2_
              clear n0_ n1_ n2_
              (try clear hb)
              (try clear hb2)
              (try clear hk)
              (try clear hi)
              refine hK.out _ _ ⟨(blk_cell BK471.out 0).trans rfl, (blk_cell BK471.out 1).trans rfl, (blk_cell BK471.out 2).trans rfl, (blk_cell BK471.out 3).trans rfl, (blk_cell BK472.out 0).trans rfl, (blk_cell BK472.out 1).trans rfl, (blk_cell BK472.out 2).trans rfl, (blk_cell BK472.out 3).trans rfl⟩ (fun hHeld => ?_)
              clear hK K
              refine norm_ (a' := ?_) ?_ ?_
              rotate_left
              · show Act.put _ (some 14) _ = _
                simp only [Act.put, List.setIfInBounds_toArray, List.set_cons_zero, List.set_cons_succ, i64_w, i32_w]
                rfl
              refine pure_ (i := 5) (N := some 9) (v := ?_) (a' := ?_) #[true, true, true, true, true, true, false, false, false, false, false] rfl rfl (any_of HT_.out (by kernel_rfl)) (fun _ _ _ h => h) (Or.inl ⟨by rfl, ?_⟩) ?_ ?_
              rotate_left
              · intro w'
                go_simp
                with_reducible rfl
              rotate_left
              · simp only [Act.put, List.setIfInBounds_toArray, List.set_cons_zero, List.set_cons_succ, i64_w, i32_w]
                rfl
              refine pure_ (i := 6) (N := some 15) (v := ?_) (a' := ?_) #[true, true, true, true, true, true, true, false, false, false, false] rfl rfl (any_of HT_.out (by kernel_rfl)) (fun _ _ _ h => h) (Or.inl ⟨by rfl, ?_⟩) ?_ ?_
              rotate_left
              · intro w'
                go_simp
                with_reducible rfl
              rotate_left
              · simp only [Act.put, List.setIfInBounds_toArray, List.set_cons_zero, List.set_cons_succ, i64_w, i32_w]
                rfl
              refine pure_ (i := 7) (N := some 16) (v := ?_) (a' := ?_) #[true, true, true, true, true, true, true, true, false, false, false] rfl rfl (any_of HT_.out (by kernel_rfl)) (fun _ _ _ h => h) (Or.inl ⟨by rfl, ?_⟩) ?_ ?_
              rotate_left
              · intro w'
                go_simp
                with_reducible rfl
              rotate_left
              · simp only [Act.put, List.setIfInBounds_toArray, List.set_cons_zero, List.set_cons_succ, i64_w, i32_w]
                rfl
              refine one_ (i := 8) (N := some 5) #[true, true, true, true, true, true, true, true, true, false, false] rfl rfl (one_of HT_.out (by kernel_rfl)) (by decide) (fun K hK => ?_)
              refine box_step ?hg (N := 5) ?hd (cs := #[.int .i64 0, .int .i64 0, .int .i64 0, .int .i64 0]) (t := 25) ?hr ?_; (case hd => rfl); (case hg => rfl); (case hr => first | (go_simp; done) | (go_simp; rfl))
              intro gb486 hg w18 hbox hb
              have n0_ := Aside0.mk (blk_below (bkA BK471) hb)
              have n1_ := Aside0.mk (blk_below (bkA BK472) hb)
              have n2_ := Aside0.mk (below_step blA hb)
              have n3_ := Aside0.mk (hbox)
              have n4_ := Aside0.mk (szA hg blA)
              have n5_ := Aside0.mk (szA hg blA)
              have n6_ := Aside0.mk (neA hg (bkA BK471))
              have n7_ := Aside0.mk (neB hg (bkA BK471))
              have n8_ := Aside0.mk (neA hg (bkA BK472))
              have n9_ := Aside0.mk (neB hg (bkA BK472))
              clear BK471
              clear BK472
              clear HB
              have BK471 := n0_
              have BK472 := n1_
              have HB := n2_
              have BK486 := n3_
              have GW486 := n4_
              have GE486 := n5_
              have NB471_486 := n6_
              have NB486_471 := n7_
              have NB472_486 := n8_
              have NB486_472 := n9_
              clear n0_ n1_ n2_ n3_ n4_ n5_ n6_ n7_ n8_ n9_
              clear hb hbox hg
              refine hK.out _ _ ⟨(blk_cell BK471.out 0).trans rfl, (blk_cell BK471.out 1).trans rfl, (blk_cell BK471.out 2).trans rfl, (blk_cell BK471.out 3).trans rfl, (blk_cell BK472.out 0).trans rfl, (blk_cell BK472.out 1).trans rfl, (blk_cell BK472.out 2).trans rfl, (blk_cell BK472.out 3).trans rfl⟩ (fun hHeld => ?_)
              clear hK K
              refine norm_ (a' := ?_) ?_ ?_
              rotate_left
              · show Act.put _ (some 5) _ = _
                simp only [Act.put, List.setIfInBounds_toArray, List.set_cons_zero, List.set_cons_succ, i64_w, i32_w]
                rfl
              exact norm_ (by simp only [putAll, Act.put, List.setIfInBounds_toArray, List.set_cons_zero, List.set_cons_succ]) (hCont (gb486) _ ⟨hHeld, (bkA BK471), (bkA BK472), (bkA BK486), GW486.out, GE486.out, NB471_486.out, NB486_471.out, NB472_486.out, NB486_472.out, blA⟩)
            · skip
              refine box_step ?hg (N := 5) ?hd (cs := #[.int .i64 0, .int .i64 0, .int .i64 0, .int .i64 0]) (t := 25) ?hr ?_; (case hd => rfl); (case hg => rfl); (case hr => first | (go_simp; done) | (go_simp; rfl))
              intro gb486 hg w17 hbox hb
              have n0_ := Aside0.mk (blk_below (bkA BK471) hb)
              have n1_ := Aside0.mk (blk_below (bkA BK472) hb)
              have n2_ := Aside0.mk (below_step blA hb)
              have n3_ := Aside0.mk (hbox)
              have n4_ := Aside0.mk (szA hg blA)
              have n5_ := Aside0.mk (szA hg blA)
              have n6_ := Aside0.mk (neA hg (bkA BK471))
              have n7_ := Aside0.mk (neB hg (bkA BK471))
              have n8_ := Aside0.mk (neA hg (bkA BK472))
              have n9_ := Aside0.mk (neB hg (bkA BK472))
              clear BK471
              clear BK472
              clear HB
              have BK471 := n0_
              have BK472 := n1_
              have HB := n2_
              have BK486 := n3_
              have GW486 := n4_
              have GE486 := n5_
              have NB471_486 := n6_
              have NB486_471 := n7_
              have NB472_486 := n8_
              have NB486_472 := n9_
              clear n0_ n1_ n2_ n3_ n4_ n5_ n6_ n7_ n8_ n9_
              clear hb hbox hg
              refine hK.out _ _ ⟨(blk_cell BK471.out 0).trans rfl, (blk_cell BK471.out 1).trans rfl, (blk_cell BK471.out 2).trans rfl, (blk_cell BK471.out 3).trans rfl, (blk_cell BK472.out 0).trans rfl, (blk_cell BK472.out 1).trans rfl, (blk_cell BK472.out 2).trans rfl, (blk_cell BK472.out 3).trans rfl⟩ (fun hHeld => ?_)
              clear hK K
              refine norm_ (a' := ?_) ?_ ?_
              rotate_left
              · show Act.put _ (some 5) _ = _
                simp only [Act.put, List.setIfInBounds_toArray, List.set_cons_zero, List.set_cons_succ, i64_w, i32_w]
                rfl
              refine one_ (i := 4) (N := some 14) #[true, true, true, true, true, false, false, false, true, false, false] rfl rfl (one_of HT_.out (by kernel_rfl)) (by decide) (fun K hK => ?_)
              refine goes_ Try.func33 (by kernel_rfl) rfl #[.agg #[.int .i64 t473, .int .i64 t474, .int .i64 t475, .int .i64 t476], .agg #[.int .i64 t477, .int .i64 t478, .int .i64 t479, .int .i64 t480]] (by rfl) rfl rfl (by (try simp only [List.map_toArray, List.map_cons, List.map_nil]); first | done | rfl | (simp only [List.length_drop, List.length_take]; rfl)) ?_
              with_reducible refine (spec_MultiplyMatrices.calls k t473 t474 t475 t476 t477 t478 t479 t480 t481 t482 t483 t484 t485 _ A5.out).mono ?_
              rintro e w18 ⟨rfl, hb⟩
              refine ⟨_, rfl, ?_⟩
              have n0_ := Aside0.mk (blk_below (bkA BK471) hb)
              have n1_ := Aside0.mk (blk_below (bkA BK472) hb)
              have n2_ := Aside0.mk (blk_below (bkA BK486) hb)
              have n3_ := Aside0.mk (below_step blA hb)
              clear BK471
              clear BK472
              clear BK486
              clear HB
              have BK471 := n0_
              have BK472 := n1_
              have BK486 := n2_
              have HB := n3_
              clear n0_ n1_ n2_ n3_
              (try clear hb)
              (try clear hb2)
              (try clear hk)
              (try clear hi)
              refine hK.out _ _ ⟨(blk_cell BK471.out 0).trans rfl, (blk_cell BK471.out 1).trans rfl, (blk_cell BK471.out 2).trans rfl, (blk_cell BK471.out 3).trans rfl, (blk_cell BK472.out 0).trans rfl, (blk_cell BK472.out 1).trans rfl, (blk_cell BK472.out 2).trans rfl, (blk_cell BK472.out 3).trans rfl⟩ (fun hHeld => ?_)
              clear hK K
              refine norm_ (a' := ?_) ?_ ?_
              rotate_left
              · show Act.put _ (some 14) _ = _
                simp only [Act.put, List.setIfInBounds_toArray, List.set_cons_zero, List.set_cons_succ, i64_w, i32_w]
                rfl
              refine pure_ (i := 5) (N := some 9) (v := ?_) (a' := ?_) #[true, true, true, true, true, true, false, false, true, false, false] rfl rfl (any_of HT_.out (by kernel_rfl)) (fun _ _ _ h => h) (Or.inl ⟨by rfl, ?_⟩) ?_ ?_
              rotate_left
              · intro w'
                go_simp
                with_reducible rfl
              rotate_left
              · simp only [Act.put, List.setIfInBounds_toArray, List.set_cons_zero, List.set_cons_succ, i64_w, i32_w]
                rfl
              refine pure_ (i := 6) (N := some 15) (v := ?_) (a' := ?_) #[true, true, true, true, true, true, true, false, true, false, false] rfl rfl (any_of HT_.out (by kernel_rfl)) (fun _ _ _ h => h) (Or.inl ⟨by rfl, ?_⟩) ?_ ?_
              rotate_left
              · intro w'
                go_simp
                with_reducible rfl
              rotate_left
              · simp only [Act.put, List.setIfInBounds_toArray, List.set_cons_zero, List.set_cons_succ, i64_w, i32_w]
                rfl
              refine pure_ (i := 7) (N := some 16) (v := ?_) (a' := ?_) #[true, true, true, true, true, true, true, true, true, false, false] rfl rfl (any_of HT_.out (by kernel_rfl)) (fun _ _ _ h => h) (Or.inl ⟨by rfl, ?_⟩) ?_ ?_
              rotate_left
              · intro w'
                go_simp
                with_reducible rfl
              rotate_left
              · simp only [Act.put, List.setIfInBounds_toArray, List.set_cons_zero, List.set_cons_succ, i64_w, i32_w]
                rfl
              exact norm_ (by simp only [putAll, Act.put, List.setIfInBounds_toArray, List.set_cons_zero, List.set_cons_succ]) (hCont (gb486) _ ⟨hHeld, (bkA BK471), (bkA BK472), (bkA BK486), GW486.out, GE486.out, NB471_486.out, NB486_471.out, NB472_486.out, NB486_472.out, blA⟩)
          · skip
            refine box_step ?hg (N := 5) ?hd (cs := #[.int .i64 0, .int .i64 0, .int .i64 0, .int .i64 0]) (t := 25) ?hr ?_; (case hd => rfl); (case hg => rfl); (case hr => first | (go_simp; done) | (go_simp; rfl))
            intro gb486 hg w16 hbox hb
            have n0_ := Aside0.mk (blk_below (bkA BK471) hb)
            have n1_ := Aside0.mk (blk_below (bkA BK472) hb)
            have n2_ := Aside0.mk (below_step blA hb)
            have n3_ := Aside0.mk (hbox)
            have n4_ := Aside0.mk (szA hg blA)
            have n5_ := Aside0.mk (szA hg blA)
            have n6_ := Aside0.mk (neA hg (bkA BK471))
            have n7_ := Aside0.mk (neB hg (bkA BK471))
            have n8_ := Aside0.mk (neA hg (bkA BK472))
            have n9_ := Aside0.mk (neB hg (bkA BK472))
            clear BK471
            clear BK472
            clear HB
            have BK471 := n0_
            have BK472 := n1_
            have HB := n2_
            have BK486 := n3_
            have GW486 := n4_
            have GE486 := n5_
            have NB471_486 := n6_
            have NB486_471 := n7_
            have NB472_486 := n8_
            have NB486_472 := n9_
            clear n0_ n1_ n2_ n3_ n4_ n5_ n6_ n7_ n8_ n9_
            clear hb hbox hg
            refine hK.out _ _ ⟨(blk_cell BK471.out 0).trans rfl, (blk_cell BK471.out 1).trans rfl, (blk_cell BK471.out 2).trans rfl, (blk_cell BK471.out 3).trans rfl, (blk_cell BK472.out 0).trans rfl, (blk_cell BK472.out 1).trans rfl, (blk_cell BK472.out 2).trans rfl, (blk_cell BK472.out 3).trans rfl⟩ (fun hHeld => ?_)
            clear hK K
            refine norm_ (a' := ?_) ?_ ?_
            rotate_left
            · show Act.put _ (some 5) _ = _
              simp only [Act.put, List.setIfInBounds_toArray, List.set_cons_zero, List.set_cons_succ, i64_w, i32_w]
              rfl
            refine one_ (i := 3) (N := some 13) #[true, true, true, true, false, false, false, false, true, false, false] rfl rfl (one_of HT_.out (by kernel_rfl)) (by decide) (fun K hK => ?_)
            refine goes_ Try.func16 (by kernel_rfl) rfl #[.agg #[.int .i64 a1_0, .int .i64 a1_1, .int .i64 a1_2, .int .i64 a1_3]] (by rfl) rfl rfl (by (try simp only [List.map_toArray, List.map_cons, List.map_nil]); first | done | rfl | (simp only [List.length_drop, List.length_take]; rfl)) ?_
            with_reducible refine (laws_toMatrix.calls a1_0 a1_1 a1_2 a1_3 t477 t478 t479 t480 _ A4.out).mono ?_
            rintro e w17 ⟨rfl, hb⟩
            refine ⟨_, rfl, ?_⟩
            have n0_ := Aside0.mk (blk_below (bkA BK471) hb)
            have n1_ := Aside0.mk (blk_below (bkA BK472) hb)
            have n2_ := Aside0.mk (blk_below (bkA BK486) hb)
            have n3_ := Aside0.mk (below_step blA hb)
            clear BK471
            clear BK472
            clear BK486
            clear HB
            have BK471 := n0_
            have BK472 := n1_
            have BK486 := n2_
            have HB := n3_
            clear n0_ n1_ n2_ n3_
            (try clear hb)
            (try clear hb2)
            (try clear hk)
            (try clear hi)
            refine hK.out _ _ ⟨(blk_cell BK471.out 0).trans rfl, (blk_cell BK471.out 1).trans rfl, (blk_cell BK471.out 2).trans rfl, (blk_cell BK471.out 3).trans rfl, (blk_cell BK472.out 0).trans rfl, (blk_cell BK472.out 1).trans rfl, (blk_cell BK472.out 2).trans rfl, (blk_cell BK472.out 3).trans rfl⟩ (fun hHeld => ?_)
            clear hK K
            refine norm_ (a' := ?_) ?_ ?_
            rotate_left
            · show Act.put _ (some 13) _ = _
              simp only [Act.put, List.setIfInBounds_toArray, List.set_cons_zero, List.set_cons_succ, i64_w, i32_w]
              rfl
            refine one_ (i := 4) (N := some 14) #[true, true, true, true, true, false, false, false, true, false, false] rfl rfl (one_of HT_.out (by kernel_rfl)) (by decide) (fun K hK => ?_)
            refine goes_ Try.func33 (by kernel_rfl) rfl #[.agg #[.int .i64 t473, .int .i64 t474, .int .i64 t475, .int .i64 t476], .agg #[.int .i64 t477, .int .i64 t478, .int .i64 t479, .int .i64 t480]] (by rfl) rfl rfl (by (try simp only [List.map_toArray, List.map_cons, List.map_nil]); first | done | rfl | (simp only [List.length_drop, List.length_take]; rfl)) ?_
            with_reducible refine (spec_MultiplyMatrices.calls k t473 t474 t475 t476 t477 t478 t479 t480 t481 t482 t483 t484 t485 _ A5.out).mono ?_
            rintro e w18 ⟨rfl, hb⟩
            refine ⟨_, rfl, ?_⟩
            have n0_ := Aside0.mk (blk_below (bkA BK471) hb)
            have n1_ := Aside0.mk (blk_below (bkA BK472) hb)
            have n2_ := Aside0.mk (blk_below (bkA BK486) hb)
            have n3_ := Aside0.mk (below_step blA hb)
            clear BK471
            clear BK472
            clear BK486
            clear HB
            have BK471 := n0_
            have BK472 := n1_
            have BK486 := n2_
            have HB := n3_
            clear n0_ n1_ n2_ n3_
            (try clear hb)
            (try clear hb2)
            (try clear hk)
            (try clear hi)
            refine hK.out _ _ ⟨(blk_cell BK471.out 0).trans rfl, (blk_cell BK471.out 1).trans rfl, (blk_cell BK471.out 2).trans rfl, (blk_cell BK471.out 3).trans rfl, (blk_cell BK472.out 0).trans rfl, (blk_cell BK472.out 1).trans rfl, (blk_cell BK472.out 2).trans rfl, (blk_cell BK472.out 3).trans rfl⟩ (fun hHeld => ?_)
            clear hK K
            refine norm_ (a' := ?_) ?_ ?_
            rotate_left
            · show Act.put _ (some 14) _ = _
              simp only [Act.put, List.setIfInBounds_toArray, List.set_cons_zero, List.set_cons_succ, i64_w, i32_w]
              rfl
            refine pure_ (i := 5) (N := some 9) (v := ?_) (a' := ?_) #[true, true, true, true, true, true, false, false, true, false, false] rfl rfl (any_of HT_.out (by kernel_rfl)) (fun _ _ _ h => h) (Or.inl ⟨by rfl, ?_⟩) ?_ ?_
            rotate_left
            · intro w'
              go_simp
              with_reducible rfl
            rotate_left
            · simp only [Act.put, List.setIfInBounds_toArray, List.set_cons_zero, List.set_cons_succ, i64_w, i32_w]
              rfl
            refine pure_ (i := 6) (N := some 15) (v := ?_) (a' := ?_) #[true, true, true, true, true, true, true, false, true, false, false] rfl rfl (any_of HT_.out (by kernel_rfl)) (fun _ _ _ h => h) (Or.inl ⟨by rfl, ?_⟩) ?_ ?_
            rotate_left
            · intro w'
              go_simp
              with_reducible rfl
            rotate_left
            · simp only [Act.put, List.setIfInBounds_toArray, List.set_cons_zero, List.set_cons_succ, i64_w, i32_w]
              rfl
            refine pure_ (i := 7) (N := some 16) (v := ?_) (a' := ?_) #[true, true, true, true, true, true, true, true, true, false, false] rfl rfl (any_of HT_.out (by kernel_rfl)) (fun _ _ _ h => h) (Or.inl ⟨by rfl, ?_⟩) ?_ ?_
            rotate_left
            · intro w'
              go_simp
              with_reducible rfl
            rotate_left
            · simp only [Act.put, List.setIfInBounds_toArray, List.set_cons_zero, List.set_cons_succ, i64_w, i32_w]
              rfl
            exact norm_ (by simp only [putAll, Act.put, List.setIfInBounds_toArray, List.set_cons_zero, List.set_cons_succ]) (hCont (gb486) _ ⟨hHeld, (bkA BK471), (bkA BK472), (bkA BK486), GW486.out, GE486.out, NB471_486.out, NB486_471.out, NB472_486.out, NB486_472.out, blA⟩)
        · skip
          refine box_step ?hg (N := 5) ?hd (cs := #[.int .i64 0, .int .i64 0, .int .i64 0, .int .i64 0]) (t := 25) ?hr ?_; (case hd => rfl); (case hg => rfl); (case hr => first | (go_simp; done) | (go_simp; rfl))
          intro gb486 hg w15 hbox hb
          have n0_ := Aside0.mk (blk_below (bkA BK471) hb)
          have n1_ := Aside0.mk (blk_below (bkA BK472) hb)
          have n2_ := Aside0.mk (below_step blA hb)
          have n3_ := Aside0.mk (hbox)
          have n4_ := Aside0.mk (szA hg blA)
          have n5_ := Aside0.mk (szA hg blA)
          have n6_ := Aside0.mk (neA hg (bkA BK471))
          have n7_ := Aside0.mk (neB hg (bkA BK471))
          have n8_ := Aside0.mk (neA hg (bkA BK472))
          have n9_ := Aside0.mk (neB hg (bkA BK472))
          clear BK471
          clear BK472
          clear HB
          have BK471 := n0_
          have BK472 := n1_
          have HB := n2_
          have BK486 := n3_
          have GW486 := n4_
          have GE486 := n5_
          have NB471_486 := n6_
          have NB486_471 := n7_
          have NB472_486 := n8_
          have NB486_472 := n9_
          clear n0_ n1_ n2_ n3_ n4_ n5_ n6_ n7_ n8_ n9_
          clear hb hbox hg
          refine hK.out _ _ ⟨(blk_cell BK471.out 0).trans rfl, (blk_cell BK471.out 1).trans rfl, (blk_cell BK471.out 2).trans rfl, (blk_cell BK471.out 3).trans rfl, (blk_cell BK472.out 0).trans rfl, (blk_cell BK472.out 1).trans rfl, (blk_cell BK472.out 2).trans rfl, (blk_cell BK472.out 3).trans rfl⟩ (fun hHeld => ?_)
          clear hK K
          refine norm_ (a' := ?_) ?_ ?_
          rotate_left
          · show Act.put _ (some 5) _ = _
            simp only [Act.put, List.setIfInBounds_toArray, List.set_cons_zero, List.set_cons_succ, i64_w, i32_w]
            rfl
          refine one_ (i := 1) (N := some 11) #[true, true, true, false, false, false, false, false, true, false, false] rfl rfl (one_of HT_.out (by kernel_rfl)) (by decide) (fun K hK => ?_)
          refine goes_ Try.func16 (by kernel_rfl) rfl #[.agg #[.int .i64 a0_0, .int .i64 a0_1, .int .i64 a0_2, .int .i64 a0_3]] (by rfl) rfl rfl (by (try simp only [List.map_toArray, List.map_cons, List.map_nil]); first | done | rfl | (simp only [List.length_drop, List.length_take]; rfl)) ?_
          with_reducible refine (laws_toMatrix.calls a0_0 a0_1 a0_2 a0_3 t473 t474 t475 t476 _ A3.out).mono ?_
          rintro e w16 ⟨rfl, hb⟩
          refine ⟨_, rfl, ?_⟩
          have n0_ := Aside0.mk (blk_below (bkA BK471) hb)
          have n1_ := Aside0.mk (blk_below (bkA BK472) hb)
          have n2_ := Aside0.mk (blk_below (bkA BK486) hb)
          have n3_ := Aside0.mk (below_step blA hb)
          clear BK471
          clear BK472
          clear BK486
          clear HB
          have BK471 := n0_
          have BK472 := n1_
          have BK486 := n2_
          have HB := n3_
          clear n0_ n1_ n2_ n3_
          (try clear hb)
          (try clear hb2)
          (try clear hk)
          (try clear hi)
          refine hK.out _ _ ⟨(blk_cell BK471.out 0).trans rfl, (blk_cell BK471.out 1).trans rfl, (blk_cell BK471.out 2).trans rfl, (blk_cell BK471.out 3).trans rfl, (blk_cell BK472.out 0).trans rfl, (blk_cell BK472.out 1).trans rfl, (blk_cell BK472.out 2).trans rfl, (blk_cell BK472.out 3).trans rfl⟩ (fun hHeld => ?_)
          clear hK K
          refine norm_ (a' := ?_) ?_ ?_
          rotate_left
          · show Act.put _ (some 11) _ = _
            simp only [Act.put, List.setIfInBounds_toArray, List.set_cons_zero, List.set_cons_succ, i64_w, i32_w]
            rfl
          refine one_ (i := 3) (N := some 13) #[true, true, true, true, false, false, false, false, true, false, false] rfl rfl (one_of HT_.out (by kernel_rfl)) (by decide) (fun K hK => ?_)
          refine goes_ Try.func16 (by kernel_rfl) rfl #[.agg #[.int .i64 a1_0, .int .i64 a1_1, .int .i64 a1_2, .int .i64 a1_3]] (by rfl) rfl rfl (by (try simp only [List.map_toArray, List.map_cons, List.map_nil]); first | done | rfl | (simp only [List.length_drop, List.length_take]; rfl)) ?_
          with_reducible refine (laws_toMatrix.calls a1_0 a1_1 a1_2 a1_3 t477 t478 t479 t480 _ A4.out).mono ?_
          rintro e w17 ⟨rfl, hb⟩
          refine ⟨_, rfl, ?_⟩
          have n0_ := Aside0.mk (blk_below (bkA BK471) hb)
          have n1_ := Aside0.mk (blk_below (bkA BK472) hb)
          have n2_ := Aside0.mk (blk_below (bkA BK486) hb)
          have n3_ := Aside0.mk (below_step blA hb)
          clear BK471
          clear BK472
          clear BK486
          clear HB
          have BK471 := n0_
          have BK472 := n1_
          have BK486 := n2_
          have HB := n3_
          clear n0_ n1_ n2_ n3_
          (try clear hb)
          (try clear hb2)
          (try clear hk)
          (try clear hi)
          refine hK.out _ _ ⟨(blk_cell BK471.out 0).trans rfl, (blk_cell BK471.out 1).trans rfl, (blk_cell BK471.out 2).trans rfl, (blk_cell BK471.out 3).trans rfl, (blk_cell BK472.out 0).trans rfl, (blk_cell BK472.out 1).trans rfl, (blk_cell BK472.out 2).trans rfl, (blk_cell BK472.out 3).trans rfl⟩ (fun hHeld => ?_)
          clear hK K
          refine norm_ (a' := ?_) ?_ ?_
          rotate_left
          · show Act.put _ (some 13) _ = _
            simp only [Act.put, List.setIfInBounds_toArray, List.set_cons_zero, List.set_cons_succ, i64_w, i32_w]
            rfl
          refine one_ (i := 4) (N := some 14) #[true, true, true, true, true, false, false, false, true, false, false] rfl rfl (one_of HT_.out (by kernel_rfl)) (by decide) (fun K hK => ?_)
          refine goes_ Try.func33 (by kernel_rfl) rfl #[.agg #[.int .i64 t473, .int .i64 t474, .int .i64 t475, .int .i64 t476], .agg #[.int .i64 t477, .int .i64 t478, .int .i64 t479, .int .i64 t480]] (by rfl) rfl rfl (by (try simp only [List.map_toArray, List.map_cons, List.map_nil]); first | done | rfl | (simp only [List.length_drop, List.length_take]; rfl)) ?_
          with_reducible refine (spec_MultiplyMatrices.calls k t473 t474 t475 t476 t477 t478 t479 t480 t481 t482 t483 t484 t485 _ A5.out).mono ?_
          rintro e w18 ⟨rfl, hb⟩
          refine ⟨_, rfl, ?_⟩
          have n0_ := Aside0.mk (blk_below (bkA BK471) hb)
          have n1_ := Aside0.mk (blk_below (bkA BK472) hb)
          have n2_ := Aside0.mk (blk_below (bkA BK486) hb)
          have n3_ := Aside0.mk (below_step blA hb)
          clear BK471
          clear BK472
          clear BK486
          clear HB
          have BK471 := n0_
          have BK472 := n1_
          have BK486 := n2_
          have HB := n3_
          clear n0_ n1_ n2_ n3_
          (try clear hb)
          (try clear hb2)
          (try clear hk)
          (try clear hi)
          refine hK.out _ _ ⟨(blk_cell BK471.out 0).trans rfl, (blk_cell BK471.out 1).trans rfl, (blk_cell BK471.out 2).trans rfl, (blk_cell BK471.out 3).trans rfl, (blk_cell BK472.out 0).trans rfl, (blk_cell BK472.out 1).trans rfl, (blk_cell BK472.out 2).trans rfl, (blk_cell BK472.out 3).trans rfl⟩ (fun hHeld => ?_)
          clear hK K
          refine norm_ (a' := ?_) ?_ ?_
          rotate_left
          · show Act.put _ (some 14) _ = _
            simp only [Act.put, List.setIfInBounds_toArray, List.set_cons_zero, List.set_cons_succ, i64_w, i32_w]
            rfl
          refine pure_ (i := 5) (N := some 9) (v := ?_) (a' := ?_) #[true, true, true, true, true, true, false, false, true, false, false] rfl rfl (any_of HT_.out (by kernel_rfl)) (fun _ _ _ h => h) (Or.inl ⟨by rfl, ?_⟩) ?_ ?_
          rotate_left
          · intro w'
            go_simp
            with_reducible rfl
          rotate_left
          · simp only [Act.put, List.setIfInBounds_toArray, List.set_cons_zero, List.set_cons_succ, i64_w, i32_w]
            rfl
          refine pure_ (i := 6) (N := some 15) (v := ?_) (a' := ?_) #[true, true, true, true, true, true, true, false, true, false, false] rfl rfl (any_of HT_.out (by kernel_rfl)) (fun _ _ _ h => h) (Or.inl ⟨by rfl, ?_⟩) ?_ ?_
          rotate_left
          · intro w'
            go_simp
            with_reducible rfl
          rotate_left
          · simp only [Act.put, List.setIfInBounds_toArray, List.set_cons_zero, List.set_cons_succ, i64_w, i32_w]
            rfl
          refine pure_ (i := 7) (N := some 16) (v := ?_) (a' := ?_) #[true, true, true, true, true, true, true, true, true, false, false] rfl rfl (any_of HT_.out (by kernel_rfl)) (fun _ _ _ h => h) (Or.inl ⟨by rfl, ?_⟩) ?_ ?_
          rotate_left
          · intro w'
            go_simp
            with_reducible rfl
          rotate_left
          · simp only [Act.put, List.setIfInBounds_toArray, List.set_cons_zero, List.set_cons_succ, i64_w, i32_w]
            rfl
          exact norm_ (by simp only [putAll, Act.put, List.setIfInBounds_toArray, List.set_cons_zero, List.set_cons_succ]) (hCont (gb486) _ ⟨hHeld, (bkA BK471), (bkA BK472), (bkA BK486), GW486.out, GE486.out, NB471_486.out, NB486_471.out, NB472_486.out, NB486_472.out, blA⟩)
      rintro gb486 w19 ⟨hS_, h0_, h1_, h2_, h3_, h4_, h5_, h6_, h7_, h8_, h9_⟩
      have n0_ : Aside0 (w19.heap[gb471]? = some (.cells #[.int .i64 a0_0, .int .i64 a0_1, .int .i64 a0_2, .int .i64 a0_3] 23 (0, 0))) := ⟨h0_⟩
      have n1_ : Aside0 (w19.heap[gb472]? = some (.cells #[.int .i64 a1_0, .int .i64 a1_1, .int .i64 a1_2, .int .i64 a1_3] 23 (0, 0))) := ⟨h1_⟩
      have n2_ : Aside0 (w19.heap[gb486]? = some (.cells #[.int .i64 0, .int .i64 0, .int .i64 0, .int .i64 0] 25 (0, 0))) := ⟨h2_⟩
      have n3_ : Aside0 (w.heap.size ≤ gb486) := ⟨h3_⟩
      have n4_ : Aside0 (w.heap.size ≤ gb486) := ⟨h4_⟩
      have n5_ : Aside0 (gb471 ≠ gb486) := ⟨h5_⟩
      have n6_ : Aside0 (gb486 ≠ gb471) := ⟨h6_⟩
      have n7_ : Aside0 (gb472 ≠ gb486) := ⟨h7_⟩
      have n8_ : Aside0 (gb486 ≠ gb472) := ⟨h8_⟩
      have n9_ : Aside0 (Below w.heap.size w w19) := ⟨h9_⟩
      clear BK471
      clear BK472
      clear HB
      clear h0_ h1_ h2_ h3_ h4_ h5_ h6_ h7_ h8_ h9_
      have BK471 := n0_
      have BK472 := n1_
      have BK486 := n2_
      have GW486 := n3_
      have GE486 := n4_
      have NB471_486 := n5_
      have NB486_471 := n6_
      have NB472_486 := n7_
      have NB486_472 := n8_
      have HB := n9_
      clear n0_ n1_ n2_ n3_ n4_ n5_ n6_ n7_ n8_ n9_
      have hHeld : w19.cell? ⟨gb471, 0, none⟩ = some (.int .i64 a0_0) ∧ w19.cell? ⟨gb471, 1, none⟩ = some (.int .i64 a0_1) ∧ w19.cell? ⟨gb471, 2, none⟩ = some (.int .i64 a0_2) ∧ w19.cell? ⟨gb471, 3, none⟩ = some (.int .i64 a0_3) ∧ w19.cell? ⟨gb472, 0, none⟩ = some (.int .i64 a1_0) ∧ w19.cell? ⟨gb472, 1, none⟩ = some (.int .i64 a1_1) ∧ w19.cell? ⟨gb472, 2, none⟩ = some (.int .i64 a1_2) ∧ w19.cell? ⟨gb472, 3, none⟩ = some (.int .i64 a1_3) := hS_
      refine norm_ (a' := ?_) ?_ ?_
      rotate_left
      · simp only [putAll, Act.put, List.setIfInBounds_toArray, List.set_cons_zero, List.set_cons_succ]
        rfl
      refine one_ (i := 9) (N := none) #[true, true, true, true, true, true, true, true, true, true, false] rfl rfl (one_of HT_.out (by kernel_rfl)) (by decide) (fun K hK => ?_)
      have hs20 : w19.cell? ⟨gb486, 0, none⟩ = some (.int .i64 0) := (blk_cell BK486.out 0).trans rfl
      have hfs20 := blk_frozen BK486.out 0
      have hns20_0 := NB471_486.out
      have hns20_1 := NB472_486.out
      have hms20_0 := NB486_471.out
      have hms20_1 := NB486_472.out
      have hs21 : w19.cell? ⟨gb486, 1, none⟩ = some (.int .i64 0) := (blk_cell BK486.out 1).trans rfl
      have hfs21 := blk_frozen BK486.out 1
      have hns21_0 := NB471_486.out
      have hns21_1 := NB472_486.out
      have hms21_0 := NB486_471.out
      have hms21_1 := NB486_472.out
      have hs22 : w19.cell? ⟨gb486, 2, none⟩ = some (.int .i64 0) := (blk_cell BK486.out 2).trans rfl
      have hfs22 := blk_frozen BK486.out 2
      have hns22_0 := NB471_486.out
      have hns22_1 := NB472_486.out
      have hms22_0 := NB486_471.out
      have hms22_1 := NB486_472.out
      have hs23 : w19.cell? ⟨gb486, 3, none⟩ = some (.int .i64 0) := (blk_cell BK486.out 3).trans rfl
      have hfs23 := blk_frozen BK486.out 3
      have hns23_0 := NB471_486.out
      have hns23_1 := NB472_486.out
      have hms23_0 := NB486_471.out
      have hms23_1 := NB486_472.out
      refine skip_ (w1 := ?_) (by rfl) rfl ?_ ?_
      rotate_left
      · go_simp
        rfl
      refine hK.out _ _ ⟨((cell_far (p := ⟨gb486, _, none⟩) NB471_486.out _).trans (((cell_far (p := ⟨gb486, _, none⟩) NB471_486.out _).trans (((cell_far (p := ⟨gb486, _, none⟩) NB471_486.out _).trans (((cell_far (p := ⟨gb486, _, none⟩) NB471_486.out _).trans (hHeld.1)))))))), ((cell_far (p := ⟨gb486, _, none⟩) NB471_486.out _).trans (((cell_far (p := ⟨gb486, _, none⟩) NB471_486.out _).trans (((cell_far (p := ⟨gb486, _, none⟩) NB471_486.out _).trans (((cell_far (p := ⟨gb486, _, none⟩) NB471_486.out _).trans (hHeld.2.1)))))))), ((cell_far (p := ⟨gb486, _, none⟩) NB471_486.out _).trans (((cell_far (p := ⟨gb486, _, none⟩) NB471_486.out _).trans (((cell_far (p := ⟨gb486, _, none⟩) NB471_486.out _).trans (((cell_far (p := ⟨gb486, _, none⟩) NB471_486.out _).trans (hHeld.2.2.1)))))))), ((cell_far (p := ⟨gb486, _, none⟩) NB471_486.out _).trans (((cell_far (p := ⟨gb486, _, none⟩) NB471_486.out _).trans (((cell_far (p := ⟨gb486, _, none⟩) NB471_486.out _).trans (((cell_far (p := ⟨gb486, _, none⟩) NB471_486.out _).trans (hHeld.2.2.2.1)))))))), ((cell_far (p := ⟨gb486, _, none⟩) NB472_486.out _).trans (((cell_far (p := ⟨gb486, _, none⟩) NB472_486.out _).trans (((cell_far (p := ⟨gb486, _, none⟩) NB472_486.out _).trans (((cell_far (p := ⟨gb486, _, none⟩) NB472_486.out _).trans (hHeld.2.2.2.2.1)))))))), ((cell_far (p := ⟨gb486, _, none⟩) NB472_486.out _).trans (((cell_far (p := ⟨gb486, _, none⟩) NB472_486.out _).trans (((cell_far (p := ⟨gb486, _, none⟩) NB472_486.out _).trans (((cell_far (p := ⟨gb486, _, none⟩) NB472_486.out _).trans (hHeld.2.2.2.2.2.1)))))))), ((cell_far (p := ⟨gb486, _, none⟩) NB472_486.out _).trans (((cell_far (p := ⟨gb486, _, none⟩) NB472_486.out _).trans (((cell_far (p := ⟨gb486, _, none⟩) NB472_486.out _).trans (((cell_far (p := ⟨gb486, _, none⟩) NB472_486.out _).trans (hHeld.2.2.2.2.2.2.1)))))))), ((cell_far (p := ⟨gb486, _, none⟩) NB472_486.out _).trans (((cell_far (p := ⟨gb486, _, none⟩) NB472_486.out _).trans (((cell_far (p := ⟨gb486, _, none⟩) NB472_486.out _).trans (((cell_far (p := ⟨gb486, _, none⟩) NB472_486.out _).trans (hHeld.2.2.2.2.2.2.2))))))))⟩ (fun hHeld => ?_)
      clear hK K
      refine pure_ (i := 10) (N := some 6) (v := ?_) (a' := ?_) #[true, true, true, true, true, true, true, true, true, true, true] rfl rfl (any_of HT_.out (by kernel_rfl)) (fun _ _ _ h => h) (Or.inl ⟨by rfl, ?_⟩) ?_ ?_
      rotate_left
      · intro w'
        go_simp
        with_reducible rfl
      rotate_left
      · simp only [Act.put, List.setIfInBounds_toArray, List.set_cons_zero, List.set_cons_succ, i64_w, i32_w]
        rfl
      refine done_ (done_of HT_.out (by kernel_rfl)) ?_
      try go_wp2
      have n0_ : Aside0 (((((w19.setCell ⟨gb486, 0, none⟩ (.int .i64 t481)).setCell ⟨gb486, 1, none⟩ (.int .i64 t482)).setCell ⟨gb486, 2, none⟩ (.int .i64 t483)).setCell ⟨gb486, 3, none⟩ (.int .i64 t484)).heap[gb471]? = some (.cells #[.int .i64 a0_0, .int .i64 a0_1, .int .i64 a0_2, .int .i64 a0_3] 23 (0, 0))) := ⟨by (with_reducible repeat (first | refine blk_drewN ?_ _ | refine blk_drew ?_ | refine blk_alloc ?_ _)); refine blk_far ?_ NB471_486.out _; (with_reducible repeat (first | refine blk_drewN ?_ _ | refine blk_drew ?_ | refine blk_alloc ?_ _)); refine blk_far ?_ NB471_486.out _; (with_reducible repeat (first | refine blk_drewN ?_ _ | refine blk_drew ?_ | refine blk_alloc ?_ _)); refine blk_far ?_ NB471_486.out _; (with_reducible repeat (first | refine blk_drewN ?_ _ | refine blk_drew ?_ | refine blk_alloc ?_ _)); refine blk_far ?_ NB471_486.out _; (with_reducible repeat (first | refine blk_drewN ?_ _ | refine blk_drew ?_ | refine blk_alloc ?_ _)); exact BK471.out⟩
      have n1_ : Aside0 (((((w19.setCell ⟨gb486, 0, none⟩ (.int .i64 t481)).setCell ⟨gb486, 1, none⟩ (.int .i64 t482)).setCell ⟨gb486, 2, none⟩ (.int .i64 t483)).setCell ⟨gb486, 3, none⟩ (.int .i64 t484)).heap[gb472]? = some (.cells #[.int .i64 a1_0, .int .i64 a1_1, .int .i64 a1_2, .int .i64 a1_3] 23 (0, 0))) := ⟨by (with_reducible repeat (first | refine blk_drewN ?_ _ | refine blk_drew ?_ | refine blk_alloc ?_ _)); refine blk_far ?_ NB472_486.out _; (with_reducible repeat (first | refine blk_drewN ?_ _ | refine blk_drew ?_ | refine blk_alloc ?_ _)); refine blk_far ?_ NB472_486.out _; (with_reducible repeat (first | refine blk_drewN ?_ _ | refine blk_drew ?_ | refine blk_alloc ?_ _)); refine blk_far ?_ NB472_486.out _; (with_reducible repeat (first | refine blk_drewN ?_ _ | refine blk_drew ?_ | refine blk_alloc ?_ _)); refine blk_far ?_ NB472_486.out _; (with_reducible repeat (first | refine blk_drewN ?_ _ | refine blk_drew ?_ | refine blk_alloc ?_ _)); exact BK472.out⟩
      have n2_ : Aside0 (((((w19.setCell ⟨gb486, 0, none⟩ (.int .i64 t481)).setCell ⟨gb486, 1, none⟩ (.int .i64 t482)).setCell ⟨gb486, 2, none⟩ (.int .i64 t483)).setCell ⟨gb486, 3, none⟩ (.int .i64 t484)).heap[gb486]? = some (.cells #[.int .i64 t481, .int .i64 t482, .int .i64 t483, .int .i64 t484] 25 (0, 0))) := ⟨by (with_reducible repeat (first | refine blk_drewN ?_ _ | refine blk_drew ?_ | refine blk_alloc ?_ _)); refine blk_put (cs := #[.int .i64 t481, .int .i64 t482, .int .i64 t483, .int .i64 0]) ?_ 3 _ rfl; (with_reducible repeat (first | refine blk_drewN ?_ _ | refine blk_drew ?_ | refine blk_alloc ?_ _)); refine blk_put (cs := #[.int .i64 t481, .int .i64 t482, .int .i64 0, .int .i64 0]) ?_ 2 _ rfl; (with_reducible repeat (first | refine blk_drewN ?_ _ | refine blk_drew ?_ | refine blk_alloc ?_ _)); refine blk_put (cs := #[.int .i64 t481, .int .i64 0, .int .i64 0, .int .i64 0]) ?_ 1 _ rfl; (with_reducible repeat (first | refine blk_drewN ?_ _ | refine blk_drew ?_ | refine blk_alloc ?_ _)); refine blk_put (cs := #[.int .i64 0, .int .i64 0, .int .i64 0, .int .i64 0]) ?_ 0 _ rfl; (with_reducible repeat (first | refine blk_drewN ?_ _ | refine blk_drew ?_ | refine blk_alloc ?_ _)); exact BK486.out⟩
      have n3_ : Aside0 (Below w.heap.size w ((((w19.setCell ⟨gb486, 0, none⟩ (.int .i64 t481)).setCell ⟨gb486, 1, none⟩ (.int .i64 t482)).setCell ⟨gb486, 2, none⟩ (.int .i64 t483)).setCell ⟨gb486, 3, none⟩ (.int .i64 t484))) := ⟨blA⟩
      (try clear BK471)
      (try clear BK472)
      (try clear BK486)
      (try clear HB)
      generalize ((((w19.setCell ⟨gb486, 0, none⟩ (.int .i64 t481)).setCell ⟨gb486, 1, none⟩ (.int .i64 t482)).setCell ⟨gb486, 2, none⟩ (.int .i64 t483)).setCell ⟨gb486, 3, none⟩ (.int .i64 t484)) = w24 at n0_ n1_ n2_ n3_ ⊢
      have BK471 := n0_
      have BK472 := n1_
      have BK486 := n2_
      have HB := n3_
      clear n0_ n1_ n2_ n3_
      have n0_ := Aside0.mk (blk_drew BK471.out)
      have n1_ := Aside0.mk (blk_drew BK472.out)
      have n2_ := Aside0.mk (blk_drew BK486.out)
      have n3_ := Aside0.mk (below_drew1 HB.out)
      clear BK471
      clear BK472
      clear BK486
      clear HB
      have BK471 := n0_
      have BK472 := n1_
      have BK486 := n2_
      have HB := n3_
      clear n0_ n1_ n2_ n3_
      refine start_ (n := 11) (S := fun w' => w'.cell? ⟨gb471, 0, none⟩ = some (.int .i64 a0_0) ∧ w'.cell? ⟨gb471, 1, none⟩ = some (.int .i64 a0_1) ∧ w'.cell? ⟨gb471, 2, none⟩ = some (.int .i64 a0_2) ∧ w'.cell? ⟨gb471, 3, none⟩ = some (.int .i64 a0_3) ∧ w'.cell? ⟨gb472, 0, none⟩ = some (.int .i64 a1_0) ∧ w'.cell? ⟨gb472, 1, none⟩ = some (.int .i64 a1_1) ∧ w'.cell? ⟨gb472, 2, none⟩ = some (.int .i64 a1_2) ∧ w'.cell? ⟨gb472, 3, none⟩ = some (.int .i64 a1_3)) (ds := []) #[false, false, false, false, false, false, false, false, false, false, false] (by kernel_rfl) rfl rfl ⟨(blk_cell BK471.out 0).trans rfl, (blk_cell BK471.out 1).trans rfl, (blk_cell BK471.out 2).trans rfl, (blk_cell BK471.out 3).trans rfl, (blk_cell BK472.out 0).trans rfl, (blk_cell BK472.out 1).trans rfl, (blk_cell BK472.out 2).trans rfl, (blk_cell BK472.out 3).trans rfl⟩ (fun hHeld => ?_); refine with_tabW laws_FnExactMultiplyMatrices.tab2 laws_FnExactMultiplyMatrices.bits2 (fun HT_ HW_ => ?_)
      generalize w24.drew = w25 at BK471 BK472 BK486 HB hHeld ⊢
      refine take_ (i := 0) (N := some 18) (v := ?_) (a' := ?_) #[true, false, false, false, false, false, false, false, false, false, false] rfl rfl (take_ofW HT_.out HW_.out (by kernel_rfl)) (fun _ _ _ h => h) (Or.inl ⟨by rfl, ?_⟩) hHeld ?_ ?_
      rotate_left
      · rintro w' ⟨s0, s1, s2, s3, s4, s5, s6, s7⟩
        go_simp
        with_reducible rfl
      rotate_left
      · simp only [Act.put, List.setIfInBounds_toArray, List.set_cons_zero, List.set_cons_succ, i64_w, i32_w]
        rfl
      refine take_ (i := 2) (N := some 20) (v := ?_) (a' := ?_) #[true, false, true, false, false, false, false, false, false, false, false] rfl rfl (take_ofW HT_.out HW_.out (by kernel_rfl)) (fun _ _ _ h => h) (Or.inl ⟨by rfl, ?_⟩) hHeld ?_ ?_
      rotate_left
      · rintro w' ⟨s0, s1, s2, s3, s4, s5, s6, s7⟩
        go_simp
        with_reducible rfl
      rotate_left
      · simp only [Act.put, List.setIfInBounds_toArray, List.set_cons_zero, List.set_cons_succ, i64_w, i32_w]
        rfl
      refine join_ (σ := Nat) 2 #[true, true, true, true, true, true, true, true, true, false, false] (fun s_ => [(19, .agg #[.int .i64 t487, .int .i64 t488, .int .i64 t489, .int .i64 t490]), (21, .agg #[.int .i64 t491, .int .i64 t492, .int .i64 t493, .int .i64 t494]), (22, .tuple #[.agg #[.int .i64 t495, .int .i64 t496, .int .i64 t497, .int .i64 t498], .int .i64 t499]), (7, .pointer (some ⟨s_, 0, none⟩)), (17, .tuple #[.agg #[.int .i64 t495, .int .i64 t496, .int .i64 t497, .int .i64 t498], .int .i64 t499]), (23, .agg #[.int .i64 t495, .int .i64 t496, .int .i64 t497, .int .i64 t498]), (24, .int .i64 t499)]) (fun s_ w' => (w'.cell? ⟨gb471, 0, none⟩ = some (.int .i64 a0_0) ∧ w'.cell? ⟨gb471, 1, none⟩ = some (.int .i64 a0_1) ∧ w'.cell? ⟨gb471, 2, none⟩ = some (.int .i64 a0_2) ∧ w'.cell? ⟨gb471, 3, none⟩ = some (.int .i64 a0_3) ∧ w'.cell? ⟨gb472, 0, none⟩ = some (.int .i64 a1_0) ∧ w'.cell? ⟨gb472, 1, none⟩ = some (.int .i64 a1_1) ∧ w'.cell? ⟨gb472, 2, none⟩ = some (.int .i64 a1_2) ∧ w'.cell? ⟨gb472, 3, none⟩ = some (.int .i64 a1_3)) ∧ (w'.heap[gb471]? = some (.cells #[.int .i64 a0_0, .int .i64 a0_1, .int .i64 a0_2, .int .i64 a0_3] 23 (0, 0))) ∧ (w'.heap[gb472]? = some (.cells #[.int .i64 a1_0, .int .i64 a1_1, .int .i64 a1_2, .int .i64 a1_3] 23 (0, 0))) ∧ (w'.heap[gb486]? = some (.cells #[.int .i64 t481, .int .i64 t482, .int .i64 t483, .int .i64 t484] 25 (0, 0))) ∧ (w'.heap[s_]? = some (.cells #[.int .i64 0, .int .i64 0, .int .i64 0, .int .i64 0] 25 (0, 0))) ∧ (w.heap.size ≤ s_) ∧ (w.heap.size ≤ s_) ∧ (gb471 ≠ s_) ∧ (s_ ≠ gb471) ∧ (gb472 ≠ s_) ∧ (s_ ≠ gb472) ∧ (gb486 ≠ s_) ∧ (s_ ≠ gb486) ∧ (Below w.heap.size w w')) ?_ ?_
      rotate_left
      · intro hCont
        refine two_ (i := 1) (j := 8) (Ni := some 19) (Nj := some 7) #[true, true, true, false, false, false, false, false, false, false, false] #[true, false, true, false, false, false, false, false, true, false, false] rfl rfl rfl rfl (two_of HT_.out (by kernel_rfl)) (by decide) (by decide) (fun K hK => ?_) (fun K hK => ?_)
        · skip
          refine goes_ Try.func16 (by kernel_rfl) rfl #[.agg #[.int .i64 a0_0, .int .i64 a0_1, .int .i64 a0_2, .int .i64 a0_3]] (by rfl) rfl rfl (by (try simp only [List.map_toArray, List.map_cons, List.map_nil]); first | done | rfl | (simp only [List.length_drop, List.length_take]; rfl)) ?_
          with_reducible refine (laws_toMatrix.calls a0_0 a0_1 a0_2 a0_3 t487 t488 t489 t490 _ A6.out).mono ?_
          rintro e w26 ⟨rfl, hb⟩
          refine ⟨_, rfl, ?_⟩
          have n0_ := Aside0.mk (blk_below (bkA BK471) hb)
          have n1_ := Aside0.mk (blk_below (bkA BK472) hb)
          have n2_ := Aside0.mk (blk_below (bkA BK486) hb)
          have n3_ := Aside0.mk (below_step blA hb)
          clear BK471
          clear BK472
          clear BK486
          clear HB
          have BK471 := n0_
          have BK472 := n1_
          have BK486 := n2_
          have HB := n3_
          clear n0_ n1_ n2_ n3_
          (try clear hb)
          (try clear hb2)
          (try clear hk)
          (try clear hi)
          refine hK.out _ _ ⟨(blk_cell BK471.out 0).trans rfl, (blk_cell BK471.out 1).trans rfl, (blk_cell BK471.out 2).trans rfl, (blk_cell BK471.out 3).trans rfl, (blk_cell BK472.out 0).trans rfl, (blk_cell BK472.out 1).trans rfl, (blk_cell BK472.out 2).trans rfl, (blk_cell BK472.out 3).trans rfl⟩ (fun hHeld => ?_)
          clear hK K
          refine norm_ (a' := ?_) ?_ ?_
          rotate_left
          · show Act.put _ (some 19) _ = _
            simp only [Act.put, List.setIfInBounds_toArray, List.set_cons_zero, List.set_cons_succ, i64_w, i32_w]
            rfl
          refine two_ (i := 3) (j := 8) (Ni := some 21) (Nj := some 7) #[true, true, true, true, false, false, false, false, false, false, false] #[true, true, true, false, false, false, false, false, true, false, false] rfl rfl rfl rfl (two_of HT_.out (by kernel_rfl)) (by decide) (by decide) (fun K hK => ?_) (fun K hK => ?_)
          · skip
            refine goes_ Try.func16 (by kernel_rfl) rfl #[.agg #[.int .i64 a1_0, .int .i64 a1_1, .int .i64 a1_2, .int .i64 a1_3]] (by rfl) rfl rfl (by (try simp only [List.map_toArray, List.map_cons, List.map_nil]); first | done | rfl | (simp only [List.length_drop, List.length_take]; rfl)) ?_
            with_reducible refine (laws_toMatrix.calls a1_0 a1_1 a1_2 a1_3 t491 t492 t493 t494 _ A7.out).mono ?_
            rintro e w27 ⟨rfl, hb⟩
            refine ⟨_, rfl, ?_⟩
            have n0_ := Aside0.mk (blk_below (bkA BK471) hb)
            have n1_ := Aside0.mk (blk_below (bkA BK472) hb)
            have n2_ := Aside0.mk (blk_below (bkA BK486) hb)
            have n3_ := Aside0.mk (below_step blA hb)
            clear BK471
            clear BK472
            clear BK486
            clear HB
            have BK471 := n0_
            have BK472 := n1_
            have BK486 := n2_
            have HB := n3_
            clear n0_ n1_ n2_ n3_
            (try clear hb)
            (try clear hb2)
            (try clear hk)
            (try clear hi)
            refine hK.out _ _ ⟨(blk_cell BK471.out 0).trans rfl, (blk_cell BK471.out 1).trans rfl, (blk_cell BK471.out 2).trans rfl, (blk_cell BK471.out 3).trans rfl, (blk_cell BK472.out 0).trans rfl, (blk_cell BK472.out 1).trans rfl, (blk_cell BK472.out 2).trans rfl, (blk_cell BK472.out 3).trans rfl⟩ (fun hHeld => ?_)
            clear hK K
            refine norm_ (a' := ?_) ?_ ?_
            rotate_left
            · show Act.put _ (some 21) _ = _
              simp only [Act.put, List.setIfInBounds_toArray, List.set_cons_zero, List.set_cons_succ, i64_w, i32_w]
              rfl
            refine two_ (i := 4) (j := 8) (Ni := some 22) (Nj := some 7) #[true, true, true, true, true, false, false, false, false, false, false] #[true, true, true, true, false, false, false, false, true, false, false] rfl rfl rfl rfl (two_of HT_.out (by kernel_rfl)) (by decide) (by decide) (fun K hK => ?_) (fun K hK => ?_)
            · skip
              refine goes_ Try.func34 (by kernel_rfl) rfl #[.agg #[.int .i64 t487, .int .i64 t488, .int .i64 t489, .int .i64 t490], .agg #[.int .i64 t491, .int .i64 t492, .int .i64 t493, .int .i64 t494]] (by rfl) rfl rfl (by (try simp only [List.map_toArray, List.map_cons, List.map_nil]); first | done | rfl | (simp only [List.length_drop, List.length_take]; rfl)) ?_
              with_reducible refine (impl_MultiplyMatrices.calls k t487 t488 t489 t490 t491 t492 t493 t494 t495 t496 t497 t498 t499 _ A8.out).mono ?_
              rintro e w28 ⟨rfl, hb⟩
              refine ⟨_, rfl, ?_⟩
              have n0_ := Aside0.mk (blk_below (bkA BK471) hb)
              have n1_ := Aside0.mk (blk_below (bkA BK472) hb)
              have n2_ := Aside0.mk (blk_below (bkA BK486) hb)
              have n3_ := Aside0.mk (below_step blA hb)
              clear BK471
              clear BK472
              clear BK486
              clear HB
              have BK471 := n0_
              have BK472 := n1_
              have BK486 := n2_
              have HB := n3_
              clear n0_ n1_ n2_ n3_
              (try clear hb)
              (try clear hb2)
              (try clear hk)
              (try clear hi)
              refine hK.out _ _ ⟨(blk_cell BK471.out 0).trans rfl, (blk_cell BK471.out 1).trans rfl, (blk_cell BK471.out 2).trans rfl, (blk_cell BK471.out 3).trans rfl, (blk_cell BK472.out 0).trans rfl, (blk_cell BK472.out 1).trans rfl, (blk_cell BK472.out 2).trans rfl, (blk_cell BK472.out 3).trans rfl⟩ (fun hHeld => ?_)
              clear hK K
              refine norm_ (a' := ?_) ?_ ?_
              rotate_left
              · show Act.put _ (some 22) _ = _
                simp only [Act.put, List.setIfInBounds_toArray, List.set_cons_zero, List.set_cons_succ, i64_w, i32_w]
                rfl
              refine pure_ (i := 5) (N := some 17) (v := ?_) (a' := ?_) #[true, true, true, true, true, true, false, false, false, false, false] rfl rfl (any_of HT_.out (by kernel_rfl)) (fun _ _ _ h => h) (Or.inl ⟨by rfl, ?_⟩) ?_ ?_
              rotate_left
              · intro w'
                go_simp
                with_reducible rfl
              rotate_left
              · simp only [Act.put, List.setIfInBounds_toArray, List.set_cons_zero, List.set_cons_succ, i64_w, i32_w]
                rfl
              refine pure_ (i := 6) (N := some 23) (v := ?_) (a' := ?_) #[true, true, true, true, true, true, true, false, false, false, false] rfl rfl (any_of HT_.out (by kernel_rfl)) (fun _ _ _ h => h) (Or.inl ⟨by rfl, ?_⟩) ?_ ?_
              rotate_left
              · intro w'
                go_simp
                with_reducible rfl
              rotate_left
              · simp only [Act.put, List.setIfInBounds_toArray, List.set_cons_zero, List.set_cons_succ, i64_w, i32_w]
                rfl
              refine pure_ (i := 7) (N := some 24) (v := ?_) (a' := ?_) #[true, true, true, true, true, true, true, true, false, false, false] rfl rfl (any_of HT_.out (by kernel_rfl)) (fun _ _ _ h => h) (Or.inl ⟨by rfl, ?_⟩) ?_ ?_
              rotate_left
              · intro w'
                go_simp
                with_reducible rfl
              rotate_left
              · simp only [Act.put, List.setIfInBounds_toArray, List.set_cons_zero, List.set_cons_succ, i64_w, i32_w]
                rfl
              refine one_ (i := 8) (N := some 7) #[true, true, true, true, true, true, true, true, true, false, false] rfl rfl (one_of HT_.out (by kernel_rfl)) (by decide) (fun K hK => ?_)
              refine box_step ?hg (N := 7) ?hd (cs := #[.int .i64 0, .int .i64 0, .int .i64 0, .int .i64 0]) (t := 25) ?hr ?_; (case hd => rfl); (case hg => rfl); (case hr => first | (go_simp; done) | (go_simp; rfl))
              intro gb500 hg w29 hbox hb
              have n0_ := Aside0.mk (blk_below (bkA BK471) hb)
              have n1_ := Aside0.mk (blk_below (bkA BK472) hb)
              have n2_ := Aside0.mk (blk_below (bkA BK486) hb)
              have n3_ := Aside0.mk (below_step blA hb)
              have n4_ := Aside0.mk (hbox)
              have n5_ := Aside0.mk (szA hg blA)
              have n6_ := Aside0.mk (szA hg blA)
              have n7_ := Aside0.mk (neA hg (bkA BK471))
              have n8_ := Aside0.mk (neB hg (bkA BK471))
              have n9_ := Aside0.mk (neA hg (bkA BK472))
              have n10_ := Aside0.mk (neB hg (bkA BK472))
              have n11_ := Aside0.mk (neA hg (bkA BK486))
              have n12_ := Aside0.mk (neB hg (bkA BK486))
              clear BK471
              clear BK472
              clear BK486
              clear HB
              have BK471 := n0_
              have BK472 := n1_
              have BK486 := n2_
              have HB := n3_
              have BK500 := n4_
              have GW500 := n5_
              have GE500 := n6_
              have NB471_500 := n7_
              have NB500_471 := n8_
              have NB472_500 := n9_
              have NB500_472 := n10_
              have NB486_500 := n11_
              have NB500_486 := n12_
              clear n0_ n1_ n2_ n3_ n4_ n5_ n6_ n7_ n8_ n9_ n10_ n11_ n12_
              clear hb hbox hg
              refine hK.out _ _ ⟨(blk_cell BK471.out 0).trans rfl, (blk_cell BK471.out 1).trans rfl, (blk_cell BK471.out 2).trans rfl, (blk_cell BK471.out 3).trans rfl, (blk_cell BK472.out 0).trans rfl, (blk_cell BK472.out 1).trans rfl, (blk_cell BK472.out 2).trans rfl, (blk_cell BK472.out 3).trans rfl⟩ (fun hHeld => ?_)
              clear hK K
              refine norm_ (a' := ?_) ?_ ?_
              rotate_left
              · show Act.put _ (some 7) _ = _
                simp only [Act.put, List.setIfInBounds_toArray, List.set_cons_zero, List.set_cons_succ, i64_w, i32_w]
                rfl
              exact norm_ (by simp only [putAll, Act.put, List.setIfInBounds_toArray, List.set_cons_zero, List.set_cons_succ]) (hCont (gb500) _ ⟨hHeld, (bkA BK471), (bkA BK472), (bkA BK486), (bkA BK500), GW500.out, GE500.out, NB471_500.out, NB500_471.out, NB472_500.out, NB500_472.out, NB486_500.out, NB500_486.out, blA⟩)
            · skip
              refine box_step ?hg (N := 7) ?hd (cs := #[.int .i64 0, .int .i64 0, .int .i64 0, .int .i64 0]) (t := 25) ?hr ?_; (case hd => rfl); (case hg => rfl); (case hr => first | (go_simp; done) | (go_simp; rfl))
              intro gb500 hg w28 hbox hb
              have n0_ := Aside0.mk (blk_below (bkA BK471) hb)
              have n1_ := Aside0.mk (blk_below (bkA BK472) hb)
              have n2_ := Aside0.mk (blk_below (bkA BK486) hb)
              have n3_ := Aside0.mk (below_step blA hb)
              have n4_ := Aside0.mk (hbox)
              have n5_ := Aside0.mk (szA hg blA)
              have n6_ := Aside0.mk (szA hg blA)
              have n7_ := Aside0.mk (neA hg (bkA BK471))
              have n8_ := Aside0.mk (neB hg (bkA BK471))
              have n9_ := Aside0.mk (neA hg (bkA BK472))
              have n10_ := Aside0.mk (neB hg (bkA BK472))
              have n11_ := Aside0.mk (neA hg (bkA BK486))
              have n12_ := Aside0.mk (neB hg (bkA BK486))
              clear BK471
              clear BK472
              clear BK486
              clear HB
              have BK471 := n0_
              have BK472 := n1_
              have BK486 := n2_
              have HB := n3_
              have BK500 := n4_
              have GW500 := n5_
              have GE500 := n6_
              have NB471_500 := n7_
              have NB500_471 := n8_
              have NB472_500 := n9_
              have NB500_472 := n10_
              have NB486_500 := n11_
              have NB500_486 := n12_
              clear n0_ n1_ n2_ n3_ n4_ n5_ n6_ n7_ n8_ n9_ n10_ n11_ n12_
              clear hb hbox hg
              refine hK.out _ _ ⟨(blk_cell BK471.out 0).trans rfl, (blk_cell BK471.out 1).trans rfl, (blk_cell BK471.out 2).trans rfl, (blk_cell BK471.out 3).trans rfl, (blk_cell BK472.out 0).trans rfl, (blk_cell BK472.out 1).trans rfl, (blk_cell BK472.out 2).trans rfl, (blk_cell BK472.out 3).trans rfl⟩ (fun hHeld => ?_)
              clear hK K
              refine norm_ (a' := ?_) ?_ ?_
              rotate_left
              · show Act.put _ (some 7) _ = _
                simp only [Act.put, List.setIfInBounds_toArray, List.set_cons_zero, List.set_cons_succ, i64_w, i32_w]
                rfl
              refine one_ (i := 4) (N := some 22) #[true, true, true, true, true, false, false, false, true, false, false] rfl rfl (one_of HT_.out (by kernel_rfl)) (by decide) (fun K hK => ?_)
              refine goes_ Try.func34 (by kernel_rfl) rfl #[.agg #[.int .i64 t487, .int .i64 t488, .int .i64 t489, .int .i64 t490], .agg #[.int .i64 t491, .int .i64 t492, .int .i64 t493, .int .i64 t494]] (by rfl) rfl rfl (by (try simp only [List.map_toArray, List.map_cons, List.map_nil]); first | done | rfl | (simp only [List.length_drop, List.length_take]; rfl)) ?_
              with_reducible refine (impl_MultiplyMatrices.calls k t487 t488 t489 t490 t491 t492 t493 t494 t495 t496 t497 t498 t499 _ A8.out).mono ?_
              rintro e w29 ⟨rfl, hb⟩
              refine ⟨_, rfl, ?_⟩
              have n0_ := Aside0.mk (blk_below (bkA BK471) hb)
              have n1_ := Aside0.mk (blk_below (bkA BK472) hb)
              have n2_ := Aside0.mk (blk_below (bkA BK486) hb)
              have n3_ := Aside0.mk (blk_below (bkA BK500) hb)
              have n4_ := Aside0.mk (below_step blA hb)
              clear BK471
              clear BK472
              clear BK486
              clear BK500
              clear HB
              have BK471 := n0_
              have BK472 := n1_
              have BK486 := n2_
              have BK500 := n3_
              have HB := n4_
              clear n0_ n1_ n2_ n3_ n4_
              (try clear hb)
              (try clear hb2)
              (try clear hk)
              (try clear hi)
              refine hK.out _ _ ⟨(blk_cell BK471.out 0).trans rfl, (blk_cell BK471.out 1).trans rfl, (blk_cell BK471.out 2).trans rfl, (blk_cell BK471.out 3).trans rfl, (blk_cell BK472.out 0).trans rfl, (blk_cell BK472.out 1).trans rfl, (blk_cell BK472.out 2).trans rfl, (blk_cell BK472.out 3).trans rfl⟩ (fun hHeld => ?_)
              clear hK K
              refine norm_ (a' := ?_) ?_ ?_
              rotate_left
              · show Act.put _ (some 22) _ = _
                simp only [Act.put, List.setIfInBounds_toArray, List.set_cons_zero, List.set_cons_succ, i64_w, i32_w]
                rfl
              refine pure_ (i := 5) (N := some 17) (v := ?_) (a' := ?_) #[true, true, true, true, true, true, false, false, true, false, false] rfl rfl (any_of HT_.out (by kernel_rfl)) (fun _ _ _ h => h) (Or.inl ⟨by rfl, ?_⟩) ?_ ?_
              rotate_left
              · intro w'
                go_simp
                with_reducible rfl
              rotate_left
              · simp only [Act.put, List.setIfInBounds_toArray, List.set_cons_zero, List.set_cons_succ, i64_w, i32_w]
                rfl
              refine pure_ (i := 6) (N := some 23) (v := ?_) (a' := ?_) #[true, true, true, true, true, true, true, false, true, false, false] rfl rfl (any_of HT_.out (by kernel_rfl)) (fun _ _ _ h => h) (Or.inl ⟨by rfl, ?_⟩) ?_ ?_
              rotate_left
              · intro w'
                go_simp
                with_reducible rfl
              rotate_left
              · simp only [Act.put, List.setIfInBounds_toArray, List.set_cons_zero, List.set_cons_succ, i64_w, i32_w]
                rfl
              refine pure_ (i := 7) (N := some 24) (v := ?_) (a' := ?_) #[true, true, true, true, true, true, true, true, true, false, false] rfl rfl (any_of HT_.out (by kernel_rfl)) (fun _ _ _ h => h) (Or.inl ⟨by rfl, ?_⟩) ?_ ?_
              rotate_left
              · intro w'
                go_simp
                with_reducible rfl
              rotate_left
              · simp only [Act.put, List.setIfInBounds_toArray, List.set_cons_zero, List.set_cons_succ, i64_w, i32_w]
                rfl
              exact norm_ (by simp only [putAll, Act.put, List.setIfInBounds_toArray, List.set_cons_zero, List.set_cons_succ]) (hCont (gb500) _ ⟨hHeld, (bkA BK471), (bkA BK472), (bkA BK486), (bkA BK500), GW500.out, GE500.out, NB471_500.out, NB500_471.out, NB472_500.out, NB500_472.out, NB486_500.out, NB500_486.out, blA⟩)
          · skip
            refine box_step ?hg (N := 7) ?hd (cs := #[.int .i64 0, .int .i64 0, .int .i64 0, .int .i64 0]) (t := 25) ?hr ?_; (case hd => rfl); (case hg => rfl); (case hr => first | (go_simp; done) | (go_simp; rfl))
            intro gb500 hg w27 hbox hb
            have n0_ := Aside0.mk (blk_below (bkA BK471) hb)
            have n1_ := Aside0.mk (blk_below (bkA BK472) hb)
            have n2_ := Aside0.mk (blk_below (bkA BK486) hb)
            have n3_ := Aside0.mk (below_step blA hb)
            have n4_ := Aside0.mk (hbox)
            have n5_ := Aside0.mk (szA hg blA)
            have n6_ := Aside0.mk (szA hg blA)
            have n7_ := Aside0.mk (neA hg (bkA BK471))
            have n8_ := Aside0.mk (neB hg (bkA BK471))
            have n9_ := Aside0.mk (neA hg (bkA BK472))
            have n10_ := Aside0.mk (neB hg (bkA BK472))
            have n11_ := Aside0.mk (neA hg (bkA BK486))
            have n12_ := Aside0.mk (neB hg (bkA BK486))
            clear BK471
            clear BK472
            clear BK486
            clear HB
            have BK471 := n0_
            have BK472 := n1_
            have BK486 := n2_
            have HB := n3_
            have BK500 := n4_
            have GW500 := n5_
            have GE500 := n6_
            have NB471_500 := n7_
            have NB500_471 := n8_
            have NB472_500 := n9_
            have NB500_472 := n10_
            have NB486_500 := n11_
            have NB500_486 := n12_
            clear n0_ n1_ n2_ n3_ n4_ n5_ n6_ n7_ n8_ n9_ n10_ n11_ n12_
            clear hb hbox hg
            refine hK.out _ _ ⟨(blk_cell BK471.out 0).trans rfl, (blk_cell BK471.out 1).trans rfl, (blk_cell BK471.out 2).trans rfl, (blk_cell BK471.out 3).trans rfl, (blk_cell BK472.out 0).trans rfl, (blk_cell BK472.out 1).trans rfl, (blk_cell BK472.out 2).trans rfl, (blk_cell BK472.out 3).trans rfl⟩ (fun hHeld => ?_)
            clear hK K
            refine norm_ (a' := ?_) ?_ ?_
            rotate_left
            · show Act.put _ (some 7) _ = _
              simp only [Act.put, List.setIfInBounds_toArray, List.set_cons_zero, List.set_cons_succ, i64_w, i32_w]
              rfl
            refine one_ (i := 3) (N := some 21) #[true, true, true, true, false, false, false, false, true, false, false] rfl rfl (one_of HT_.out (by kernel_rfl)) (by decide) (fun K hK => ?_)
            refine goes_ Try.func16 (by kernel_rfl) rfl #[.agg #[.int .i64 a1_0, .int .i64 a1_1, .int .i64 a1_2, .int .i64 a1_3]] (by rfl) rfl rfl (by (try simp only [List.map_toArray, List.map_cons, List.map_nil]); first | done | rfl | (simp only [List.length_drop, List.length_take]; rfl)) ?_
            with_reducible refine (laws_toMatrix.calls a1_0 a1_1 a1_2 a1_3 t491 t492 t493 t494 _ A7.out).mono ?_
            rintro e w28 ⟨rfl, hb⟩
            refine ⟨_, rfl, ?_⟩
            have n0_ := Aside0.mk (blk_below (bkA BK471) hb)
            have n1_ := Aside0.mk (blk_below (bkA BK472) hb)
            have n2_ := Aside0.mk (blk_below (bkA BK486) hb)
            have n3_ := Aside0.mk (blk_below (bkA BK500) hb)
            have n4_ := Aside0.mk (below_step blA hb)
            clear BK471
            clear BK472
            clear BK486
            clear BK500
            clear HB
            have BK471 := n0_
            have BK472 := n1_
            have BK486 := n2_
            have BK500 := n3_
            have HB := n4_
            clear n0_ n1_ n2_ n3_ n4_
            (try clear hb)
            (try clear hb2)
            (try clear hk)
            (try clear hi)
            refine hK.out _ _ ⟨(blk_cell BK471.out 0).trans rfl, (blk_cell BK471.out 1).trans rfl, (blk_cell BK471.out 2).trans rfl, (blk_cell BK471.out 3).trans rfl, (blk_cell BK472.out 0).trans rfl, (blk_cell BK472.out 1).trans rfl, (blk_cell BK472.out 2).trans rfl, (blk_cell BK472.out 3).trans rfl⟩ (fun hHeld => ?_)
            clear hK K
            refine norm_ (a' := ?_) ?_ ?_
            rotate_left
            · show Act.put _ (some 21) _ = _
              simp only [Act.put, List.setIfInBounds_toArray, List.set_cons_zero, List.set_cons_succ, i64_w, i32_w]
              rfl
            refine one_ (i := 4) (N := some 22) #[true, true, true, true, true, false, false, false, true, false, false] rfl rfl (one_of HT_.out (by kernel_rfl)) (by decide) (fun K hK => ?_)
            refine goes_ Try.func34 (by kernel_rfl) rfl #[.agg #[.int .i64 t487, .int .i64 t488, .int .i64 t489, .int .i64 t490], .agg #[.int .i64 t491, .int .i64 t492, .int .i64 t493, .int .i64 t494]] (by rfl) rfl rfl (by (try simp only [List.map_toArray, List.map_cons, List.map_nil]); first | done | rfl | (simp only [List.length_drop, List.length_take]; rfl)) ?_
            with_reducible refine (impl_MultiplyMatrices.calls k t487 t488 t489 t490 t491 t492 t493 t494 t495 t496 t497 t498 t499 _ A8.out).mono ?_
            rintro e w29 ⟨rfl, hb⟩
            refine ⟨_, rfl, ?_⟩
            have n0_ := Aside0.mk (blk_below (bkA BK471) hb)
            have n1_ := Aside0.mk (blk_below (bkA BK472) hb)
            have n2_ := Aside0.mk (blk_below (bkA BK486) hb)
            have n3_ := Aside0.mk (blk_below (bkA BK500) hb)
            have n4_ := Aside0.mk (below_step blA hb)
            clear BK471
            clear BK472
            clear BK486
            clear BK500
            clear HB
            have BK471 := n0_
            have BK472 := n1_
            have BK486 := n2_
            have BK500 := n3_
            have HB := n4_
            clear n0_ n1_ n2_ n3_ n4_
            (try clear hb)
            (try clear hb2)
            (try clear hk)
            (try clear hi)
            refine hK.out _ _ ⟨(blk_cell BK471.out 0).trans rfl, (blk_cell BK471.out 1).trans rfl, (blk_cell BK471.out 2).trans rfl, (blk_cell BK471.out 3).trans rfl, (blk_cell BK472.out 0).trans rfl, (blk_cell BK472.out 1).trans rfl, (blk_cell BK472.out 2).trans rfl, (blk_cell BK472.out 3).trans rfl⟩ (fun hHeld => ?_)
            clear hK K
            refine norm_ (a' := ?_) ?_ ?_
            rotate_left
            · show Act.put _ (some 22) _ = _
              simp only [Act.put, List.setIfInBounds_toArray, List.set_cons_zero, List.set_cons_succ, i64_w, i32_w]
              rfl
            refine pure_ (i := 5) (N := some 17) (v := ?_) (a' := ?_) #[true, true, true, true, true, true, false, false, true, false, false] rfl rfl (any_of HT_.out (by kernel_rfl)) (fun _ _ _ h => h) (Or.inl ⟨by rfl, ?_⟩) ?_ ?_
            rotate_left
            · intro w'
              go_simp
              with_reducible rfl
            rotate_left
            · simp only [Act.put, List.setIfInBounds_toArray, List.set_cons_zero, List.set_cons_succ, i64_w, i32_w]
              rfl
            refine pure_ (i := 6) (N := some 23) (v := ?_) (a' := ?_) #[true, true, true, true, true, true, true, false, true, false, false] rfl rfl (any_of HT_.out (by kernel_rfl)) (fun _ _ _ h => h) (Or.inl ⟨by rfl, ?_⟩) ?_ ?_
            rotate_left
            · intro w'
              go_simp
              with_reducible rfl
            rotate_left
            · simp only [Act.put, List.setIfInBounds_toArray, List.set_cons_zero, List.set_cons_succ, i64_w, i32_w]
              rfl
            refine pure_ (i := 7) (N := some 24) (v := ?_) (a' := ?_) #[true, true, true, true, true, true, true, true, true, false, false] rfl rfl (any_of HT_.out (by kernel_rfl)) (fun _ _ _ h => h) (Or.inl ⟨by rfl, ?_⟩) ?_ ?_
            rotate_left
            · intro w'
              go_simp
              with_reducible rfl
            rotate_left
            · simp only [Act.put, List.setIfInBounds_toArray, List.set_cons_zero, List.set_cons_succ, i64_w, i32_w]
              rfl
            exact norm_ (by simp only [putAll, Act.put, List.setIfInBounds_toArray, List.set_cons_zero, List.set_cons_succ]) (hCont (gb500) _ ⟨hHeld, (bkA BK471), (bkA BK472), (bkA BK486), (bkA BK500), GW500.out, GE500.out, NB471_500.out, NB500_471.out, NB472_500.out, NB500_472.out, NB486_500.out, NB500_486.out, blA⟩)
        · skip
          refine box_step ?hg (N := 7) ?hd (cs := #[.int .i64 0, .int .i64 0, .int .i64 0, .int .i64 0]) (t := 25) ?hr ?_; (case hd => rfl); (case hg => rfl); (case hr => first | (go_simp; done) | (go_simp; rfl))
          intro gb500 hg w26 hbox hb
          have n0_ := Aside0.mk (blk_below (bkA BK471) hb)
          have n1_ := Aside0.mk (blk_below (bkA BK472) hb)
          have n2_ := Aside0.mk (blk_below (bkA BK486) hb)
          have n3_ := Aside0.mk (below_step blA hb)
          have n4_ := Aside0.mk (hbox)
          have n5_ := Aside0.mk (szA hg blA)
          have n6_ := Aside0.mk (szA hg blA)
          have n7_ := Aside0.mk (neA hg (bkA BK471))
          have n8_ := Aside0.mk (neB hg (bkA BK471))
          have n9_ := Aside0.mk (neA hg (bkA BK472))
          have n10_ := Aside0.mk (neB hg (bkA BK472))
          have n11_ := Aside0.mk (neA hg (bkA BK486))
          have n12_ := Aside0.mk (neB hg (bkA BK486))
          clear BK471
          clear BK472
          clear BK486
          clear HB
          have BK471 := n0_
          have BK472 := n1_
          have BK486 := n2_
          have HB := n3_
          have BK500 := n4_
          have GW500 := n5_
          have GE500 := n6_
          have NB471_500 := n7_
          have NB500_471 := n8_
          have NB472_500 := n9_
          have NB500_472 := n10_
          have NB486_500 := n11_
          have NB500_486 := n12_
          clear n0_ n1_ n2_ n3_ n4_ n5_ n6_ n7_ n8_ n9_ n10_ n11_ n12_
          clear hb hbox hg
          refine hK.out _ _ ⟨(blk_cell BK471.out 0).trans rfl, (blk_cell BK471.out 1).trans rfl, (blk_cell BK471.out 2).trans rfl, (blk_cell BK471.out 3).trans rfl, (blk_cell BK472.out 0).trans rfl, (blk_cell BK472.out 1).trans rfl, (blk_cell BK472.out 2).trans rfl, (blk_cell BK472.out 3).trans rfl⟩ (fun hHeld => ?_)
          clear hK K
          refine norm_ (a' := ?_) ?_ ?_
          rotate_left
          · show Act.put _ (some 7) _ = _
            simp only [Act.put, List.setIfInBounds_toArray, List.set_cons_zero, List.set_cons_succ, i64_w, i32_w]
            rfl
          refine one_ (i := 1) (N := some 19) #[true, true, true, false, false, false, false, false, true, false, false] rfl rfl (one_of HT_.out (by kernel_rfl)) (by decide) (fun K hK => ?_)
          refine goes_ Try.func16 (by kernel_rfl) rfl #[.agg #[.int .i64 a0_0, .int .i64 a0_1, .int .i64 a0_2, .int .i64 a0_3]] (by rfl) rfl rfl (by (try simp only [List.map_toArray, List.map_cons, List.map_nil]); first | done | rfl | (simp only [List.length_drop, List.length_take]; rfl)) ?_
          with_reducible refine (laws_toMatrix.calls a0_0 a0_1 a0_2 a0_3 t487 t488 t489 t490 _ A6.out).mono ?_
          rintro e w27 ⟨rfl, hb⟩
          refine ⟨_, rfl, ?_⟩
          have n0_ := Aside0.mk (blk_below (bkA BK471) hb)
          have n1_ := Aside0.mk (blk_below (bkA BK472) hb)
          have n2_ := Aside0.mk (blk_below (bkA BK486) hb)
          have n3_ := Aside0.mk (blk_below (bkA BK500) hb)
          have n4_ := Aside0.mk (below_step blA hb)
          clear BK471
          clear BK472
          clear BK486
          clear BK500
          clear HB
          have BK471 := n0_
          have BK472 := n1_
          have BK486 := n2_
          have BK500 := n3_
          have HB := n4_
          clear n0_ n1_ n2_ n3_ n4_
          (try clear hb)
          (try clear hb2)
          (try clear hk)
          (try clear hi)
          refine hK.out _ _ ⟨(blk_cell BK471.out 0).trans rfl, (blk_cell BK471.out 1).trans rfl, (blk_cell BK471.out 2).trans rfl, (blk_cell BK471.out 3).trans rfl, (blk_cell BK472.out 0).trans rfl, (blk_cell BK472.out 1).trans rfl, (blk_cell BK472.out 2).trans rfl, (blk_cell BK472.out 3).trans rfl⟩ (fun hHeld => ?_)
          clear hK K
          refine norm_ (a' := ?_) ?_ ?_
          rotate_left
          · show Act.put _ (some 19) _ = _
            simp only [Act.put, List.setIfInBounds_toArray, List.set_cons_zero, List.set_cons_succ, i64_w, i32_w]
            rfl
          refine one_ (i := 3) (N := some 21) #[true, true, true, true, false, false, false, false, true, false, false] rfl rfl (one_of HT_.out (by kernel_rfl)) (by decide) (fun K hK => ?_)
          refine goes_ Try.func16 (by kernel_rfl) rfl #[.agg #[.int .i64 a1_0, .int .i64 a1_1, .int .i64 a1_2, .int .i64 a1_3]] (by rfl) rfl rfl (by (try simp only [List.map_toArray, List.map_cons, List.map_nil]); first | done | rfl | (simp only [List.length_drop, List.length_take]; rfl)) ?_
          with_reducible refine (laws_toMatrix.calls a1_0 a1_1 a1_2 a1_3 t491 t492 t493 t494 _ A7.out).mono ?_
          rintro e w28 ⟨rfl, hb⟩
          refine ⟨_, rfl, ?_⟩
          have n0_ := Aside0.mk (blk_below (bkA BK471) hb)
          have n1_ := Aside0.mk (blk_below (bkA BK472) hb)
          have n2_ := Aside0.mk (blk_below (bkA BK486) hb)
          have n3_ := Aside0.mk (blk_below (bkA BK500) hb)
          have n4_ := Aside0.mk (below_step blA hb)
          clear BK471
          clear BK472
          clear BK486
          clear BK500
          clear HB
          have BK471 := n0_
          have BK472 := n1_
          have BK486 := n2_
          have BK500 := n3_
          have HB := n4_
          clear n0_ n1_ n2_ n3_ n4_
          (try clear hb)
          (try clear hb2)
          (try clear hk)
          (try clear hi)
          refine hK.out _ _ ⟨(blk_cell BK471.out 0).trans rfl, (blk_cell BK471.out 1).trans rfl, (blk_cell BK471.out 2).trans rfl, (blk_cell BK471.out 3).trans rfl, (blk_cell BK472.out 0).trans rfl, (blk_cell BK472.out 1).trans rfl, (blk_cell BK472.out 2).trans rfl, (blk_cell BK472.out 3).trans rfl⟩ (fun hHeld => ?_)
          clear hK K
          refine norm_ (a' := ?_) ?_ ?_
          rotate_left
          · show Act.put _ (some 21) _ = _
            simp only [Act.put, List.setIfInBounds_toArray, List.set_cons_zero, List.set_cons_succ, i64_w, i32_w]
            rfl
          refine one_ (i := 4) (N := some 22) #[true, true, true, true, true, false, false, false, true, false, false] rfl rfl (one_of HT_.out (by kernel_rfl)) (by decide) (fun K hK => ?_)
          refine goes_ Try.func34 (by kernel_rfl) rfl #[.agg #[.int .i64 t487, .int .i64 t488, .int .i64 t489, .int .i64 t490], .agg #[.int .i64 t491, .int .i64 t492, .int .i64 t493, .int .i64 t494]] (by rfl) rfl rfl (by (try simp only [List.map_toArray, List.map_cons, List.map_nil]); first | done | rfl | (simp only [List.length_drop, List.length_take]; rfl)) ?_
          with_reducible refine (impl_MultiplyMatrices.calls k t487 t488 t489 t490 t491 t492 t493 t494 t495 t496 t497 t498 t499 _ A8.out).mono ?_
          rintro e w29 ⟨rfl, hb⟩
          refine ⟨_, rfl, ?_⟩
          have n0_ := Aside0.mk (blk_below (bkA BK471) hb)
          have n1_ := Aside0.mk (blk_below (bkA BK472) hb)
          have n2_ := Aside0.mk (blk_below (bkA BK486) hb)
          have n3_ := Aside0.mk (blk_below (bkA BK500) hb)
          have n4_ := Aside0.mk (below_step blA hb)
          clear BK471
          clear BK472
          clear BK486
          clear BK500
          clear HB
          have BK471 := n0_
          have BK472 := n1_
          have BK486 := n2_
          have BK500 := n3_
          have HB := n4_
          clear n0_ n1_ n2_ n3_ n4_
          (try clear hb)
          (try clear hb2)
          (try clear hk)
          (try clear hi)
          refine hK.out _ _ ⟨(blk_cell BK471.out 0).trans rfl, (blk_cell BK471.out 1).trans rfl, (blk_cell BK471.out 2).trans rfl, (blk_cell BK471.out 3).trans rfl, (blk_cell BK472.out 0).trans rfl, (blk_cell BK472.out 1).trans rfl, (blk_cell BK472.out 2).trans rfl, (blk_cell BK472.out 3).trans rfl⟩ (fun hHeld => ?_)
          clear hK K
          refine norm_ (a' := ?_) ?_ ?_
          rotate_left
          · show Act.put _ (some 22) _ = _
            simp only [Act.put, List.setIfInBounds_toArray, List.set_cons_zero, List.set_cons_succ, i64_w, i32_w]
            rfl
          refine pure_ (i := 5) (N := some 17) (v := ?_) (a' := ?_) #[true, true, true, true, true, true, false, false, true, false, false] rfl rfl (any_of HT_.out (by kernel_rfl)) (fun _ _ _ h => h) (Or.inl ⟨by rfl, ?_⟩) ?_ ?_
          rotate_left
          · intro w'
            go_simp
            with_reducible rfl
          rotate_left
          · simp only [Act.put, List.setIfInBounds_toArray, List.set_cons_zero, List.set_cons_succ, i64_w, i32_w]
            rfl
          refine pure_ (i := 6) (N := some 23) (v := ?_) (a' := ?_) #[true, true, true, true, true, true, true, false, true, false, false] rfl rfl (any_of HT_.out (by kernel_rfl)) (fun _ _ _ h => h) (Or.inl ⟨by rfl, ?_⟩) ?_ ?_
          rotate_left
          · intro w'
            go_simp
            with_reducible rfl
          rotate_left
          · simp only [Act.put, List.setIfInBounds_toArray, List.set_cons_zero, List.set_cons_succ, i64_w, i32_w]
            rfl
          refine pure_ (i := 7) (N := some 24) (v := ?_) (a' := ?_) #[true, true, true, true, true, true, true, true, true, false, false] rfl rfl (any_of HT_.out (by kernel_rfl)) (fun _ _ _ h => h) (Or.inl ⟨by rfl, ?_⟩) ?_ ?_
          rotate_left
          · intro w'
            go_simp
            with_reducible rfl
          rotate_left
          · simp only [Act.put, List.setIfInBounds_toArray, List.set_cons_zero, List.set_cons_succ, i64_w, i32_w]
            rfl
          exact norm_ (by simp only [putAll, Act.put, List.setIfInBounds_toArray, List.set_cons_zero, List.set_cons_succ]) (hCont (gb500) _ ⟨hHeld, (bkA BK471), (bkA BK472), (bkA BK486), (bkA BK500), GW500.out, GE500.out, NB471_500.out, NB500_471.out, NB472_500.out, NB500_472.out, NB486_500.out, NB500_486.out, blA⟩)
      rintro gb500 w30 ⟨hS_, h0_, h1_, h2_, h3_, h4_, h5_, h6_, h7_, h8_, h9_, h10_, h11_, h12_⟩
      have n0_ : Aside0 (w30.heap[gb471]? = some (.cells #[.int .i64 a0_0, .int .i64 a0_1, .int .i64 a0_2, .int .i64 a0_3] 23 (0, 0))) := ⟨h0_⟩
      have n1_ : Aside0 (w30.heap[gb472]? = some (.cells #[.int .i64 a1_0, .int .i64 a1_1, .int .i64 a1_2, .int .i64 a1_3] 23 (0, 0))) := ⟨h1_⟩
      have n2_ : Aside0 (w30.heap[gb486]? = some (.cells #[.int .i64 t481, .int .i64 t482, .int .i64 t483, .int .i64 t484] 25 (0, 0))) := ⟨h2_⟩
      have n3_ : Aside0 (w30.heap[gb500]? = some (.cells #[.int .i64 0, .int .i64 0, .int .i64 0, .int .i64 0] 25 (0, 0))) := ⟨h3_⟩
      have n4_ : Aside0 (w.heap.size ≤ gb500) := ⟨h4_⟩
      have n5_ : Aside0 (w.heap.size ≤ gb500) := ⟨h5_⟩
      have n6_ : Aside0 (gb471 ≠ gb500) := ⟨h6_⟩
      have n7_ : Aside0 (gb500 ≠ gb471) := ⟨h7_⟩
      have n8_ : Aside0 (gb472 ≠ gb500) := ⟨h8_⟩
      have n9_ : Aside0 (gb500 ≠ gb472) := ⟨h9_⟩
      have n10_ : Aside0 (gb486 ≠ gb500) := ⟨h10_⟩
      have n11_ : Aside0 (gb500 ≠ gb486) := ⟨h11_⟩
      have n12_ : Aside0 (Below w.heap.size w w30) := ⟨h12_⟩
      clear BK471
      clear BK472
      clear BK486
      clear HB
      clear h0_ h1_ h2_ h3_ h4_ h5_ h6_ h7_ h8_ h9_ h10_ h11_ h12_
      have BK471 := n0_
      have BK472 := n1_
      have BK486 := n2_
      have BK500 := n3_
      have GW500 := n4_
      have GE500 := n5_
      have NB471_500 := n6_
      have NB500_471 := n7_
      have NB472_500 := n8_
      have NB500_472 := n9_
      have NB486_500 := n10_
      have NB500_486 := n11_
      have HB := n12_
      clear n0_ n1_ n2_ n3_ n4_ n5_ n6_ n7_ n8_ n9_ n10_ n11_ n12_
      have hHeld : w30.cell? ⟨gb471, 0, none⟩ = some (.int .i64 a0_0) ∧ w30.cell? ⟨gb471, 1, none⟩ = some (.int .i64 a0_1) ∧ w30.cell? ⟨gb471, 2, none⟩ = some (.int .i64 a0_2) ∧ w30.cell? ⟨gb471, 3, none⟩ = some (.int .i64 a0_3) ∧ w30.cell? ⟨gb472, 0, none⟩ = some (.int .i64 a1_0) ∧ w30.cell? ⟨gb472, 1, none⟩ = some (.int .i64 a1_1) ∧ w30.cell? ⟨gb472, 2, none⟩ = some (.int .i64 a1_2) ∧ w30.cell? ⟨gb472, 3, none⟩ = some (.int .i64 a1_3) := hS_
      refine norm_ (a' := ?_) ?_ ?_
      rotate_left
      · simp only [putAll, Act.put, List.setIfInBounds_toArray, List.set_cons_zero, List.set_cons_succ]
        rfl
      refine one_ (i := 9) (N := none) #[true, true, true, true, true, true, true, true, true, true, false] rfl rfl (one_of HT_.out (by kernel_rfl)) (by decide) (fun K hK => ?_)
      have hs31 : w30.cell? ⟨gb500, 0, none⟩ = some (.int .i64 0) := (blk_cell BK500.out 0).trans rfl
      have hfs31 := blk_frozen BK500.out 0
      have hns31_0 := NB471_500.out
      have hns31_1 := NB472_500.out
      have hns31_2 := NB486_500.out
      have hms31_0 := NB500_471.out
      have hms31_1 := NB500_472.out
      have hms31_2 := NB500_486.out
      have hs32 : w30.cell? ⟨gb500, 1, none⟩ = some (.int .i64 0) := (blk_cell BK500.out 1).trans rfl
      have hfs32 := blk_frozen BK500.out 1
      have hns32_0 := NB471_500.out
      have hns32_1 := NB472_500.out
      have hns32_2 := NB486_500.out
      have hms32_0 := NB500_471.out
      have hms32_1 := NB500_472.out
      have hms32_2 := NB500_486.out
      have hs33 : w30.cell? ⟨gb500, 2, none⟩ = some (.int .i64 0) := (blk_cell BK500.out 2).trans rfl
      have hfs33 := blk_frozen BK500.out 2
      have hns33_0 := NB471_500.out
      have hns33_1 := NB472_500.out
      have hns33_2 := NB486_500.out
      have hms33_0 := NB500_471.out
      have hms33_1 := NB500_472.out
      have hms33_2 := NB500_486.out
      have hs34 : w30.cell? ⟨gb500, 3, none⟩ = some (.int .i64 0) := (blk_cell BK500.out 3).trans rfl
      have hfs34 := blk_frozen BK500.out 3
      have hns34_0 := NB471_500.out
      have hns34_1 := NB472_500.out
      have hns34_2 := NB486_500.out
      have hms34_0 := NB500_471.out
      have hms34_1 := NB500_472.out
      have hms34_2 := NB500_486.out
      refine skip_ (w1 := ?_) (by rfl) rfl ?_ ?_
      rotate_left
      · go_simp
        rfl
      refine hK.out _ _ ⟨((cell_far (p := ⟨gb500, _, none⟩) NB471_500.out _).trans (((cell_far (p := ⟨gb500, _, none⟩) NB471_500.out _).trans (((cell_far (p := ⟨gb500, _, none⟩) NB471_500.out _).trans (((cell_far (p := ⟨gb500, _, none⟩) NB471_500.out _).trans (hHeld.1)))))))), ((cell_far (p := ⟨gb500, _, none⟩) NB471_500.out _).trans (((cell_far (p := ⟨gb500, _, none⟩) NB471_500.out _).trans (((cell_far (p := ⟨gb500, _, none⟩) NB471_500.out _).trans (((cell_far (p := ⟨gb500, _, none⟩) NB471_500.out _).trans (hHeld.2.1)))))))), ((cell_far (p := ⟨gb500, _, none⟩) NB471_500.out _).trans (((cell_far (p := ⟨gb500, _, none⟩) NB471_500.out _).trans (((cell_far (p := ⟨gb500, _, none⟩) NB471_500.out _).trans (((cell_far (p := ⟨gb500, _, none⟩) NB471_500.out _).trans (hHeld.2.2.1)))))))), ((cell_far (p := ⟨gb500, _, none⟩) NB471_500.out _).trans (((cell_far (p := ⟨gb500, _, none⟩) NB471_500.out _).trans (((cell_far (p := ⟨gb500, _, none⟩) NB471_500.out _).trans (((cell_far (p := ⟨gb500, _, none⟩) NB471_500.out _).trans (hHeld.2.2.2.1)))))))), ((cell_far (p := ⟨gb500, _, none⟩) NB472_500.out _).trans (((cell_far (p := ⟨gb500, _, none⟩) NB472_500.out _).trans (((cell_far (p := ⟨gb500, _, none⟩) NB472_500.out _).trans (((cell_far (p := ⟨gb500, _, none⟩) NB472_500.out _).trans (hHeld.2.2.2.2.1)))))))), ((cell_far (p := ⟨gb500, _, none⟩) NB472_500.out _).trans (((cell_far (p := ⟨gb500, _, none⟩) NB472_500.out _).trans (((cell_far (p := ⟨gb500, _, none⟩) NB472_500.out _).trans (((cell_far (p := ⟨gb500, _, none⟩) NB472_500.out _).trans (hHeld.2.2.2.2.2.1)))))))), ((cell_far (p := ⟨gb500, _, none⟩) NB472_500.out _).trans (((cell_far (p := ⟨gb500, _, none⟩) NB472_500.out _).trans (((cell_far (p := ⟨gb500, _, none⟩) NB472_500.out _).trans (((cell_far (p := ⟨gb500, _, none⟩) NB472_500.out _).trans (hHeld.2.2.2.2.2.2.1)))))))), ((cell_far (p := ⟨gb500, _, none⟩) NB472_500.out _).trans (((cell_far (p := ⟨gb500, _, none⟩) NB472_500.out _).trans (((cell_far (p := ⟨gb500, _, none⟩) NB472_500.out _).trans (((cell_far (p := ⟨gb500, _, none⟩) NB472_500.out _).trans (hHeld.2.2.2.2.2.2.2))))))))⟩ (fun hHeld => ?_)
      clear hK K
      refine pure_ (i := 10) (N := some 8) (v := ?_) (a' := ?_) #[true, true, true, true, true, true, true, true, true, true, true] rfl rfl (any_of HT_.out (by kernel_rfl)) (fun _ _ _ h => h) (Or.inl ⟨by rfl, ?_⟩) ?_ ?_
      rotate_left
      · intro w'
        go_simp
        with_reducible rfl
      rotate_left
      · simp only [Act.put, List.setIfInBounds_toArray, List.set_cons_zero, List.set_cons_succ, i64_w, i32_w]
        rfl
      refine done_ (done_of HT_.out (by kernel_rfl)) ?_
      have hnb35 := NB500_471.out
      have hnc35 := NB471_500.out
      have hnb36 := NB500_472.out
      have hnc36 := NB472_500.out
      have hnb37 := NB500_486.out
      have hnc37 := NB486_500.out
      have hcz38_0 : w30.cell? ⟨gb500, 0, none⟩ = some (.int .i64 0) := (blk_cell BK500.out 0).trans rfl
      have hcz38_1 : w30.cell? ⟨gb500, 1, none⟩ = some (.int .i64 0) := (blk_cell BK500.out 1).trans rfl
      have hcz38_2 : w30.cell? ⟨gb500, 2, none⟩ = some (.int .i64 0) := (blk_cell BK500.out 2).trans rfl
      have hcz38_3 : w30.cell? ⟨gb500, 3, none⟩ = some (.int .i64 0) := (blk_cell BK500.out 3).trans rfl
      have hfz38_0 := blk_frozen BK500.out 0
      have hfz38_1 := blk_frozen BK500.out 1
      have hfz38_2 := blk_frozen BK500.out 2
      have hfz38_3 := blk_frozen BK500.out 3
      have hnb39 := NB486_471.out
      have hnc39 := NB471_486.out
      have hnb40 := NB486_472.out
      have hnc40 := NB472_486.out
      have hcz41_0 : w30.cell? ⟨gb486, 0, none⟩ = some (.int .i64 t481) := (blk_cell BK486.out 0).trans rfl
      have hcz41_1 : w30.cell? ⟨gb486, 1, none⟩ = some (.int .i64 t482) := (blk_cell BK486.out 1).trans rfl
      have hcz41_2 : w30.cell? ⟨gb486, 2, none⟩ = some (.int .i64 t483) := (blk_cell BK486.out 2).trans rfl
      have hcz41_3 : w30.cell? ⟨gb486, 3, none⟩ = some (.int .i64 t484) := (blk_cell BK486.out 3).trans rfl
      have hfz41_0 := blk_frozen BK486.out 0
      have hfz41_1 := blk_frozen BK486.out 1
      have hfz41_2 := blk_frozen BK486.out 2
      have hfz41_3 := blk_frozen BK486.out 3
      try go_wp2_with (first | ((with_reducible refine gate_callee (f := 22) rfl ?_); refine goesL_ (some 27) rfl rfl Try.func22 (by kernel_rfl) rfl #[.agg #[.int .i64 t495, .int .i64 t496, .int .i64 t497, .int .i64 t498], .agg #[.int .i64 t481, .int .i64 t482, .int .i64 t483, .int .i64 t484]] rfl (by (try simp only [List.map_toArray, List.map_cons, List.map_nil]); first | done | rfl | (simp only [List.length_drop, List.length_take]; rfl)) ?_; (with_reducible refine (laws_eqMatrix.calls t495 t496 t497 t498 t481 t482 t483 t484 true _ A9.out).mono ?_); rintro e w42 ⟨rfl, hb⟩; refine ⟨_, rfl, ?_⟩; have n0_ := Aside0.mk (blk_below (g := gb471) (o := .cells #[.int .i64 a0_0, .int .i64 a0_1, .int .i64 a0_2, .int .i64 a0_3] 23 (0, 0)) (by (with_reducible repeat (first | refine blk_drewN ?_ _ | refine blk_drew ?_ | refine blk_alloc ?_ _)); refine blk_far ?_ NB471_500.out _; (with_reducible repeat (first | refine blk_drewN ?_ _ | refine blk_drew ?_ | refine blk_alloc ?_ _)); refine blk_far ?_ NB471_500.out _; (with_reducible repeat (first | refine blk_drewN ?_ _ | refine blk_drew ?_ | refine blk_alloc ?_ _)); refine blk_far ?_ NB471_500.out _; (with_reducible repeat (first | refine blk_drewN ?_ _ | refine blk_drew ?_ | refine blk_alloc ?_ _)); refine blk_far ?_ NB471_500.out _; (with_reducible repeat (first | refine blk_drewN ?_ _ | refine blk_drew ?_ | refine blk_alloc ?_ _)); exact BK471.out) hb); have n1_ := Aside0.mk (blk_below (g := gb472) (o := .cells #[.int .i64 a1_0, .int .i64 a1_1, .int .i64 a1_2, .int .i64 a1_3] 23 (0, 0)) (by (with_reducible repeat (first | refine blk_drewN ?_ _ | refine blk_drew ?_ | refine blk_alloc ?_ _)); refine blk_far ?_ NB472_500.out _; (with_reducible repeat (first | refine blk_drewN ?_ _ | refine blk_drew ?_ | refine blk_alloc ?_ _)); refine blk_far ?_ NB472_500.out _; (with_reducible repeat (first | refine blk_drewN ?_ _ | refine blk_drew ?_ | refine blk_alloc ?_ _)); refine blk_far ?_ NB472_500.out _; (with_reducible repeat (first | refine blk_drewN ?_ _ | refine blk_drew ?_ | refine blk_alloc ?_ _)); refine blk_far ?_ NB472_500.out _; (with_reducible repeat (first | refine blk_drewN ?_ _ | refine blk_drew ?_ | refine blk_alloc ?_ _)); exact BK472.out) hb); have n2_ := Aside0.mk (blk_below (g := gb486) (o := .cells #[.int .i64 t481, .int .i64 t482, .int .i64 t483, .int .i64 t484] 25 (0, 0)) (by (with_reducible repeat (first | refine blk_drewN ?_ _ | refine blk_drew ?_ | refine blk_alloc ?_ _)); refine blk_far ?_ NB486_500.out _; (with_reducible repeat (first | refine blk_drewN ?_ _ | refine blk_drew ?_ | refine blk_alloc ?_ _)); refine blk_far ?_ NB486_500.out _; (with_reducible repeat (first | refine blk_drewN ?_ _ | refine blk_drew ?_ | refine blk_alloc ?_ _)); refine blk_far ?_ NB486_500.out _; (with_reducible repeat (first | refine blk_drewN ?_ _ | refine blk_drew ?_ | refine blk_alloc ?_ _)); refine blk_far ?_ NB486_500.out _; (with_reducible repeat (first | refine blk_drewN ?_ _ | refine blk_drew ?_ | refine blk_alloc ?_ _)); exact BK486.out) hb); have n3_ := Aside0.mk (blk_below (g := gb500) (o := .cells #[.int .i64 t495, .int .i64 t496, .int .i64 t497, .int .i64 t498] 25 (0, 0)) (by (with_reducible repeat (first | refine blk_drewN ?_ _ | refine blk_drew ?_ | refine blk_alloc ?_ _)); refine blk_put (cs := #[.int .i64 t495, .int .i64 t496, .int .i64 t497, .int .i64 0]) ?_ 3 _ rfl; (with_reducible repeat (first | refine blk_drewN ?_ _ | refine blk_drew ?_ | refine blk_alloc ?_ _)); refine blk_put (cs := #[.int .i64 t495, .int .i64 t496, .int .i64 0, .int .i64 0]) ?_ 2 _ rfl; (with_reducible repeat (first | refine blk_drewN ?_ _ | refine blk_drew ?_ | refine blk_alloc ?_ _)); refine blk_put (cs := #[.int .i64 t495, .int .i64 0, .int .i64 0, .int .i64 0]) ?_ 1 _ rfl; (with_reducible repeat (first | refine blk_drewN ?_ _ | refine blk_drew ?_ | refine blk_alloc ?_ _)); refine blk_put (cs := #[.int .i64 0, .int .i64 0, .int .i64 0, .int .i64 0]) ?_ 0 _ rfl; (with_reducible repeat (first | refine blk_drewN ?_ _ | refine blk_drew ?_ | refine blk_alloc ?_ _)); exact BK500.out) hb); have n4_ := Aside0.mk (below_step blA hb); clear BK471; clear BK472; clear BK486; clear BK500; clear HB; have BK471 := n0_; have BK472 := n1_; have BK486 := n2_; have BK500 := n3_; have HB := n4_; clear n0_ n1_ n2_ n3_ n4_; (try clear hb); (try clear hb2); (try clear hk); (try clear hi)))
      go_ret
      exact ⟨by first | rfl | (simp [errW_none, errW_some] <;> rfl) | (simp [*, errW_none, errW_some] <;> rfl), blA⟩
    · rw [if_neg c11] at H
      exact absurd H (by simp)
  · replace c10 := Bool.eq_false_iff.mpr c10
    subst c10
    have H1 : (none) = some r := by rw [if_neg (show ¬ (false = true) by decide)] at H; exact H
    clear H
    have H := H1
    clear H1
    exact absurd H (by simp)
end Go.Proofs.Ytmhajnfdbjnegaa.PAll
