-- turned for this claim out of the kit's print: the same functions, packed anew
import Derived.Test.YtnejmbhpngdiiaaQx
import Derived.Test.YtnejmbhpngdiiaaQimplCrossRatio
import Derived.Test.YtnejmbhpngdiiaaQimplareEnds
import Derived.Test.YtnejmbhpngdiiaaQspecCrossRatio
namespace Go.Proofs.Ytnejmbhpngdiiaa.PAll
open Go.RowKit Go.Proofs.YtnejmbhpngdiiaaW.PrintWords Go.Proofs.YtnejmbhpngdiiaaW.PrintLast Go.Proofs.YtnejmbhpngdiiaaW.PrintMore
attribute [local go_sem] Go.Proofs.Ytnejmbhpngdiiaa.Aux.setCell_drewN Go.Proofs.Ytnejmbhpngdiiaa.Aux.isSome_setCell Go.Proofs.Ytnejmbhpngdiiaa.Aux.max_eight max2_int min2_int max_two min_two max_three min_three max_four min_four   -- for this text's walks alone
set_option linter.unusedVariables false
set_option linter.unusedSimpArgs false
/-! ### laws_FnExactCrossRatio: function 3 -/
def laws_FnExactCrossRatio.f (k : Nat) (a0_0 : Int) (a0_1 : Int) (a1_0 : Int) (a1_1 : Int) (a2_0 : Int) (a2_1 : Int) (a3_0 : Int) (a3_1 : Int) : Option (Bool) := (laws_toEnd.f a0_0 a0_1).bind fun bt227 => ((laws_toEnd.f a1_0 a1_1).bind fun bt229 => ((laws_toEnd.f a2_0 a2_1).bind fun bt231 => ((laws_toEnd.f a3_0 a3_1).bind fun bt233 => ((spec_CrossRatio.f k bt227.1 bt227.2 bt229.1 bt229.2 bt231.1 bt231.2 bt233.1 bt233.2).bind fun bt235 => ((laws_toEnd.f a0_0 a0_1).bind fun bt239 => ((laws_toEnd.f a1_0 a1_1).bind fun bt241 => ((laws_toEnd.f a2_0 a2_1).bind fun bt243 => ((laws_toEnd.f a3_0 a3_1).bind fun bt245 => ((impl_CrossRatio.f k bt239.1 bt239.2 bt241.1 bt241.2 bt243.1 bt243.2 bt245.1 bt245.2).bind fun bt247 => ((laws_eqEnd.f bt247.1 bt247.2.1 bt235.1 bt235.2.1).bind fun t251 => (if t251 = true then (if bt247.2.2 = bt235.2.2 then (some true) else (none)) else (none))))))))))))
theorem laws_FnExactCrossRatio.mono : ∀ a0 a1 a2 a3 a4 a5 a6 a7 k, LeO (laws_FnExactCrossRatio.f k a0 a1 a2 a3 a4 a5 a6 a7) (laws_FnExactCrossRatio.f (k + 1) a0 a1 a2 a3 a4 a5 a6 a7) := by
 intro a0 a1 a2 a3 a4 a5 a6 a7 k
 unfold laws_FnExactCrossRatio.f
 repeat' first
   | (with_reducible exact impl_CrossRatio.mono _ _ _ _ _ _ _ _ _)
   | (with_reducible exact spec_CrossRatio.mono _ _ _ _ _ _ _ _ _)
   | (with_reducible exact LeO.refl _)
   | (with_reducible exact LeO.none _)
   | (with_reducible refine LeO.ite ?_ ?_)
   | (with_reducible refine LeO.bind ?_ (fun _ => ?_))
def laws_FnExactCrossRatio.T1 : Bool × List (List Nat × List Nat) := (true, [([], []), ([0], [0]), ([], []), ([2, 1], [2]), ([], []), ([4, 3], [4]), ([], []), ([6, 5], [6]), ([1, 3, 5, 7, 7], [1, 3, 5, 7]), ([8], [8]), ([9], [9]), ([9], [9]), ([], []), ([12, 10, 8, 0, 1, 2, 3, 4, 5, 6, 7, 8, 9, 10, 12], [10, 12]), ([11, 13, 0, 1, 2, 3, 4, 5, 6, 7, 8, 9, 10, 11, 12, 13], [11])])
def laws_FnExactCrossRatio.B1 : List Nat := [0, 1, 0, 7, 0, 31, 0, 127, 255, 511, 1023, 1023, 0, 6143, 16383]
theorem laws_FnExactCrossRatio.tab1 : rtab .any (opsOf Try.f3 1) = laws_FnExactCrossRatio.T1 := by kernel_rfl
theorem laws_FnExactCrossRatio.bits1 : waitsOk laws_FnExactCrossRatio.T1.2 laws_FnExactCrossRatio.B1 = true := by kernel_rfl
def laws_FnExactCrossRatio.T2 : Bool × List (List Nat × List Nat) := (true, [([], []), ([0], [0]), ([], []), ([2, 1], [2]), ([], []), ([4, 3], [4]), ([], []), ([6, 5], [6]), ([1, 3, 5, 7, 7], [1, 3, 5, 7]), ([8], [8]), ([9], [9]), ([9], [9]), ([], []), ([12, 10, 8, 0, 1, 2, 3, 4, 5, 6, 7, 8, 9, 10, 12], [10, 12]), ([11, 13, 0, 1, 2, 3, 4, 5, 6, 7, 8, 9, 10, 11, 12, 13], [11])])
def laws_FnExactCrossRatio.B2 : List Nat := [0, 1, 0, 7, 0, 31, 0, 127, 255, 511, 1023, 1023, 0, 6143, 16383]
theorem laws_FnExactCrossRatio.tab2 : rtab .any (opsOf Try.f3 2) = laws_FnExactCrossRatio.T2 := by kernel_rfl
theorem laws_FnExactCrossRatio.bits2 : waitsOk laws_FnExactCrossRatio.T2.2 laws_FnExactCrossRatio.B2 = true := by kernel_rfl
set_option maxHeartbeats 8000000 in
set_option maxRecDepth 100000 in
theorem laws_FnExactCrossRatio.calls (k : Nat) (a0_0 : Int) (a0_1 : Int) (a1_0 : Int) (a1_1 : Int) (a2_0 : Int) (a2_1 : Int) (a3_0 : Int) (a3_1 : Int) (r : Bool) (w : World) (h : laws_FnExactCrossRatio.f k a0_0 a0_1 a1_0 a1_1 a2_0 a2_1 a3_0 a3_1 = some r) :
  Calls Try.prog 3 #[.agg #[.int .i64 a0_0, .int .i64 a0_1], .agg #[.int .i64 a1_0, .int .i64 a1_1], .agg #[.int .i64 a2_0, .int .i64 a2_1], .agg #[.int .i64 a3_0, .int .i64 a3_1]] w fun e w' => e = .returned (.bool r) ∧ Below w.heap.size w w' := by
 have hu23 := Try.underlying23
 have hu24 := Try.underlying24
 have HB := Aside0.mk (Below.refl w.heap.size w)
 have H := h
 unfold laws_FnExactCrossRatio.f at H
 clear h
 replace H := bS H
 obtain ⟨⟨t227, t228⟩, A5, H⟩ := H
 try dsimp only at H
 replace H := bS H
 obtain ⟨⟨t229, t230⟩, A6, H⟩ := H
 try dsimp only at H
 replace H := bS H
 obtain ⟨⟨t231, t232⟩, A7, H⟩ := H
 try dsimp only at H
 replace H := bS H
 obtain ⟨⟨t233, t234⟩, A8, H⟩ := H
 try dsimp only at H
 replace H := bS H
 obtain ⟨⟨t235, t236, t237⟩, A9, H⟩ := H
 try dsimp only at H
 replace H := bS H
 obtain ⟨⟨t239, t240⟩, A10, H⟩ := H
 try dsimp only at H
 replace H := bS H
 obtain ⟨⟨t241, t242⟩, A11, H⟩ := H
 try dsimp only at H
 replace H := bS H
 obtain ⟨⟨t243, t244⟩, A12, H⟩ := H
 try dsimp only at H
 replace H := bS H
 obtain ⟨⟨t245, t246⟩, A13, H⟩ := H
 try dsimp only at H
 replace H := bS H
 obtain ⟨⟨t247, t248, t249⟩, A14, H⟩ := H
 try dsimp only at H
 replace H := bS H
 obtain ⟨t251, A15, H⟩ := H
 try dsimp only at H
 by_cases c16 : t251 = true
 ·
  subst c16
  rw [if_pos rfl] at H
  try dsimp only at H
  by_cases c17 : t249 = t237
  ·
   rw [if_pos c17] at H
   have c17b0 : (t249 == t237) = true := beq_iff_eq.mpr c17
   have c17b1 : (t249 != t237) = false := bne_eq_false_iff_eq.mpr c17
   clear c17
   obtain rfl := Option.some.inj H
   go_enter Try.func3, Try.ntmps3
   try go_wp2_with (first | ((with_reducible refine gate_dst (N := 4) rfl ?_); refine box_event ?hg (N := 4) ?hd (cs := #[.int .i64 a0_0, .int .i64 a0_1]) (t := 23) ?hr ?_; (case hd => rfl); (case hg => rfl); (case hr => first | (go_simp; done) | (go_simp; rfl)); intro gb223 hg w18 hbox hb; have n0_ := lB hb; have n1_ := Aside0.mk (hbox); have n2_ := sA hg; have n3_ := sA hg; clear HB; have HB := n0_; have BK223 := n1_; have GW223 := n2_; have GE223 := n3_; clear n0_ n1_ n2_ n3_; clear hb hbox hg) | ((with_reducible refine gate_dst (N := 5) rfl ?_); refine box_event ?hg (N := 5) ?hd (cs := #[.int .i64 a1_0, .int .i64 a1_1]) (t := 23) ?hr ?_; (case hd => rfl); (case hg => rfl); (case hr => first | (go_simp; done) | (go_simp; rfl)); intro gb224 hg w19 hbox hb; have n0_ := kB BK223 hb; have n1_ := lB hb; have n2_ := Aside0.mk (hbox); have n3_ := sA hg; have n4_ := sA hg; have n5_ := nA hg BK223; have n6_ := nB hg BK223; clear BK223; clear HB; have BK223 := n0_; have HB := n1_; have BK224 := n2_; have GW224 := n3_; have GE224 := n4_; have NB223_224 := n5_; have NB224_223 := n6_; clear n0_ n1_ n2_ n3_ n4_ n5_ n6_; clear hb hbox hg) | ((with_reducible refine gate_dst (N := 6) rfl ?_); refine box_event ?hg (N := 6) ?hd (cs := #[.int .i64 a2_0, .int .i64 a2_1]) (t := 23) ?hr ?_; (case hd => rfl); (case hg => rfl); (case hr => first | (go_simp; done) | (go_simp; rfl)); intro gb225 hg w20 hbox hb; have n0_ := kB BK223 hb; have n1_ := kB BK224 hb; have n2_ := lB hb; have n3_ := Aside0.mk (hbox); have n4_ := sA hg; have n5_ := sA hg; have n6_ := nA hg BK223; have n7_ := nB hg BK223; have n8_ := nA hg BK224; have n9_ := nB hg BK224; clear BK223; clear BK224; clear HB; have BK223 := n0_; have BK224 := n1_; have HB := n2_; have BK225 := n3_; have GW225 := n4_; have GE225 := n5_; have NB223_225 := n6_; have NB225_223 := n7_; have NB224_225 := n8_; have NB225_224 := n9_; clear n0_ n1_ n2_ n3_ n4_ n5_ n6_ n7_ n8_ n9_; clear hb hbox hg) | ((with_reducible refine gate_dst (N := 7) rfl ?_); refine box_event ?hg (N := 7) ?hd (cs := #[.int .i64 a3_0, .int .i64 a3_1]) (t := 23) ?hr ?_; (case hd => rfl); (case hg => rfl); (case hr => first | (go_simp; done) | (go_simp; rfl)); intro gb226 hg w21 hbox hb; have n0_ := kB BK223 hb; have n1_ := kB BK224 hb; have n2_ := kB BK225 hb; have n3_ := lB hb; have n4_ := Aside0.mk (hbox); have n5_ := sA hg; have n6_ := sA hg; have n7_ := nA hg BK223; have n8_ := nB hg BK223; have n9_ := nA hg BK224; have n10_ := nB hg BK224; have n11_ := nA hg BK225; have n12_ := nB hg BK225; clear BK223; clear BK224; clear BK225; clear HB; have BK223 := n0_; have BK224 := n1_; have BK225 := n2_; have HB := n3_; have BK226 := n4_; have GW226 := n5_; have GE226 := n6_; have NB223_226 := n7_; have NB226_223 := n8_; have NB224_226 := n9_; have NB226_224 := n10_; have NB225_226 := n11_; have NB226_225 := n12_; clear n0_ n1_ n2_ n3_ n4_ n5_ n6_ n7_ n8_ n9_ n10_ n11_ n12_; clear hb hbox hg))
   have n0_ := Aside0.mk (blk_drew BK223.out)
   have n1_ := Aside0.mk (blk_drew BK224.out)
   have n2_ := Aside0.mk (blk_drew BK225.out)
   have n3_ := Aside0.mk (blk_drew BK226.out)
   have n4_ := Aside0.mk (below_drew1 HB.out)
   clear BK223
   clear BK224
   clear BK225
   clear BK226
   clear HB
   have BK223 := n0_
   have BK224 := n1_
   have BK225 := n2_
   have BK226 := n3_
   have HB := n4_
   clear n0_ n1_ n2_ n3_ n4_
   refine start_ (n := 15) (S := fun w' => w'.cell? ⟨gb223, 0, none⟩ = some (.int .i64 a0_0) ∧ w'.cell? ⟨gb223, 1, none⟩ = some (.int .i64 a0_1) ∧ w'.cell? ⟨gb224, 0, none⟩ = some (.int .i64 a1_0) ∧ w'.cell? ⟨gb224, 1, none⟩ = some (.int .i64 a1_1) ∧ w'.cell? ⟨gb225, 0, none⟩ = some (.int .i64 a2_0) ∧ w'.cell? ⟨gb225, 1, none⟩ = some (.int .i64 a2_1) ∧ w'.cell? ⟨gb226, 0, none⟩ = some (.int .i64 a3_0) ∧ w'.cell? ⟨gb226, 1, none⟩ = some (.int .i64 a3_1)) (ds := []) #[Z, Z, Z, Z, Z, Z, Z, Z, Z, Z, Z, Z, Z, Z, Z] (by kernel_rfl) rfl rfl ⟨cA BK223 0, cA BK223 1, cA BK224 0, cA BK224 1, cA BK225 0, cA BK225 1, cA BK226 0, cA BK226 1⟩ (fun hHeld => ?_); refine with_tabW laws_FnExactCrossRatio.tab1 laws_FnExactCrossRatio.bits1 (fun HT_ HW_ => ?_)
   generalize w21.drew = w22 at BK223 BK224 BK225 BK226 HB hHeld ⊢
   refine take_ (i := 0) (N := some 14) (v := ?_) (a' := ?_) #[Y, Z, Z, Z, Z, Z, Z, Z, Z, Z, Z, Z, Z, Z, Z] rfl rfl (take_ofW HT_.out HW_.out (by kernel_rfl)) (fun _ _ _ h => h) (Or.inl ⟨by rfl, ?_⟩) hHeld ?_ ?_
   rotate_left
   ·
    rintro w' ⟨s0, s1, s2, s3, s4, s5, s6, s7⟩
    go_simp
    with_reducible rfl
   rotate_left
   ·
    simp only [pA]
    rfl
   refine take_ (i := 2) (N := some 16) (v := ?_) (a' := ?_) #[Y, Z, Y, Z, Z, Z, Z, Z, Z, Z, Z, Z, Z, Z, Z] rfl rfl (take_ofW HT_.out HW_.out (by kernel_rfl)) (fun _ _ _ h => h) (Or.inl ⟨by rfl, ?_⟩) hHeld ?_ ?_
   rotate_left
   ·
    rintro w' ⟨s0, s1, s2, s3, s4, s5, s6, s7⟩
    go_simp
    with_reducible rfl
   rotate_left
   ·
    simp only [pA]
    rfl
   refine take_ (i := 4) (N := some 18) (v := ?_) (a' := ?_) #[Y, Z, Y, Z, Y, Z, Z, Z, Z, Z, Z, Z, Z, Z, Z] rfl rfl (take_ofW HT_.out HW_.out (by kernel_rfl)) (fun _ _ _ h => h) (Or.inl ⟨by rfl, ?_⟩) hHeld ?_ ?_
   rotate_left
   ·
    rintro w' ⟨s0, s1, s2, s3, s4, s5, s6, s7⟩
    go_simp
    with_reducible rfl
   rotate_left
   ·
    simp only [pA]
    rfl
   refine take_ (i := 6) (N := some 20) (v := ?_) (a' := ?_) #[Y, Z, Y, Z, Y, Z, Y, Z, Z, Z, Z, Z, Z, Z, Z] rfl rfl (take_ofW HT_.out HW_.out (by kernel_rfl)) (fun _ _ _ h => h) (Or.inl ⟨by rfl, ?_⟩) hHeld ?_ ?_
   rotate_left
   ·
    rintro w' ⟨s0, s1, s2, s3, s4, s5, s6, s7⟩
    go_simp
    with_reducible rfl
   rotate_left
   ·
    simp only [pA]
    rfl
   refine join_ (σ := Nat) 2 #[Y, Y, Y, Y, Y, Y, Y, Y, Y, Y, Y, Y, Y, Z, Z] (fun s_ => [(15, .agg #[.int .i64 t227, .int .i64 t228]), (17, .agg #[.int .i64 t229, .int .i64 t230]), (19, .agg #[.int .i64 t231, .int .i64 t232]), (21, .agg #[.int .i64 t233, .int .i64 t234]), (22, .tuple #[.agg #[.int .i64 t235, .int .i64 t236], .int .i64 t237]), (9, .pointer (some ⟨s_, 0, none⟩)), (13, .tuple #[.agg #[.int .i64 t235, .int .i64 t236], .int .i64 t237]), (23, .agg #[.int .i64 t235, .int .i64 t236]), (24, .int .i64 t237)]) (fun s_ w' => (w'.cell? ⟨gb223, 0, none⟩ = some (.int .i64 a0_0) ∧ w'.cell? ⟨gb223, 1, none⟩ = some (.int .i64 a0_1) ∧ w'.cell? ⟨gb224, 0, none⟩ = some (.int .i64 a1_0) ∧ w'.cell? ⟨gb224, 1, none⟩ = some (.int .i64 a1_1) ∧ w'.cell? ⟨gb225, 0, none⟩ = some (.int .i64 a2_0) ∧ w'.cell? ⟨gb225, 1, none⟩ = some (.int .i64 a2_1) ∧ w'.cell? ⟨gb226, 0, none⟩ = some (.int .i64 a3_0) ∧ w'.cell? ⟨gb226, 1, none⟩ = some (.int .i64 a3_1)) ∧ (w'.heap[gb223]? = some (.cells #[.int .i64 a0_0, .int .i64 a0_1] 23 (0, 0))) ∧ (w'.heap[gb224]? = some (.cells #[.int .i64 a1_0, .int .i64 a1_1] 23 (0, 0))) ∧ (w'.heap[gb225]? = some (.cells #[.int .i64 a2_0, .int .i64 a2_1] 23 (0, 0))) ∧ (w'.heap[gb226]? = some (.cells #[.int .i64 a3_0, .int .i64 a3_1] 23 (0, 0))) ∧ (w'.heap[s_]? = some (.cells #[.int .i64 0, .int .i64 0] 24 (0, 0))) ∧ (w.heap.size ≤ s_) ∧ (w.heap.size ≤ s_) ∧ (gb223 ≠ s_) ∧ (s_ ≠ gb223) ∧ (gb224 ≠ s_) ∧ (s_ ≠ gb224) ∧ (gb225 ≠ s_) ∧ (s_ ≠ gb225) ∧ (gb226 ≠ s_) ∧ (s_ ≠ gb226) ∧ (Below w.heap.size w w')) ?_ ?_
   rotate_left
   ·
    intro hJ1_3_5_7_8_12
    refine join_ (σ := Unit) 3 #[Y, Y, Y, Y, Y, Y, Y, Y, Y, Y, Y, Y, Z, Z, Z] (fun s_ => [(15, .agg #[.int .i64 t227, .int .i64 t228]), (17, .agg #[.int .i64 t229, .int .i64 t230]), (19, .agg #[.int .i64 t231, .int .i64 t232]), (21, .agg #[.int .i64 t233, .int .i64 t234]), (22, .tuple #[.agg #[.int .i64 t235, .int .i64 t236], .int .i64 t237]), (13, .tuple #[.agg #[.int .i64 t235, .int .i64 t236], .int .i64 t237]), (23, .agg #[.int .i64 t235, .int .i64 t236]), (24, .int .i64 t237)]) (fun s_ w' => (w'.cell? ⟨gb223, 0, none⟩ = some (.int .i64 a0_0) ∧ w'.cell? ⟨gb223, 1, none⟩ = some (.int .i64 a0_1) ∧ w'.cell? ⟨gb224, 0, none⟩ = some (.int .i64 a1_0) ∧ w'.cell? ⟨gb224, 1, none⟩ = some (.int .i64 a1_1) ∧ w'.cell? ⟨gb225, 0, none⟩ = some (.int .i64 a2_0) ∧ w'.cell? ⟨gb225, 1, none⟩ = some (.int .i64 a2_1) ∧ w'.cell? ⟨gb226, 0, none⟩ = some (.int .i64 a3_0) ∧ w'.cell? ⟨gb226, 1, none⟩ = some (.int .i64 a3_1)) ∧ (w'.heap[gb223]? = some (.cells #[.int .i64 a0_0, .int .i64 a0_1] 23 (0, 0))) ∧ (w'.heap[gb224]? = some (.cells #[.int .i64 a1_0, .int .i64 a1_1] 23 (0, 0))) ∧ (w'.heap[gb225]? = some (.cells #[.int .i64 a2_0, .int .i64 a2_1] 23 (0, 0))) ∧ (w'.heap[gb226]? = some (.cells #[.int .i64 a3_0, .int .i64 a3_1] 23 (0, 0))) ∧ (Below w.heap.size w w')) ?_ ?_
    rotate_left
    ·
     intro hJ1_3_5_7_8
     refine join_ (σ := Nat) 6 #[Y, Y, Y, Y, Y, Y, Y, Y, Z, Z, Z, Z, Y, Z, Z] (fun s_ => [(15, .agg #[.int .i64 t227, .int .i64 t228]), (17, .agg #[.int .i64 t229, .int .i64 t230]), (19, .agg #[.int .i64 t231, .int .i64 t232]), (21, .agg #[.int .i64 t233, .int .i64 t234]), (9, .pointer (some ⟨s_, 0, none⟩))]) (fun s_ w' => (w'.cell? ⟨gb223, 0, none⟩ = some (.int .i64 a0_0) ∧ w'.cell? ⟨gb223, 1, none⟩ = some (.int .i64 a0_1) ∧ w'.cell? ⟨gb224, 0, none⟩ = some (.int .i64 a1_0) ∧ w'.cell? ⟨gb224, 1, none⟩ = some (.int .i64 a1_1) ∧ w'.cell? ⟨gb225, 0, none⟩ = some (.int .i64 a2_0) ∧ w'.cell? ⟨gb225, 1, none⟩ = some (.int .i64 a2_1) ∧ w'.cell? ⟨gb226, 0, none⟩ = some (.int .i64 a3_0) ∧ w'.cell? ⟨gb226, 1, none⟩ = some (.int .i64 a3_1)) ∧ (w'.heap[gb223]? = some (.cells #[.int .i64 a0_0, .int .i64 a0_1] 23 (0, 0))) ∧ (w'.heap[gb224]? = some (.cells #[.int .i64 a1_0, .int .i64 a1_1] 23 (0, 0))) ∧ (w'.heap[gb225]? = some (.cells #[.int .i64 a2_0, .int .i64 a2_1] 23 (0, 0))) ∧ (w'.heap[gb226]? = some (.cells #[.int .i64 a3_0, .int .i64 a3_1] 23 (0, 0))) ∧ (w'.heap[s_]? = some (.cells #[.int .i64 0, .int .i64 0] 24 (0, 0))) ∧ (w.heap.size ≤ s_) ∧ (w.heap.size ≤ s_) ∧ (gb223 ≠ s_) ∧ (s_ ≠ gb223) ∧ (gb224 ≠ s_) ∧ (s_ ≠ gb224) ∧ (gb225 ≠ s_) ∧ (s_ ≠ gb225) ∧ (gb226 ≠ s_) ∧ (s_ ≠ gb226) ∧ (Below w.heap.size w w')) ?_ ?_
     rotate_left
     ·
      intro hJ1_3_5_7_12
      refine join_ (σ := Unit) 7 #[Y, Y, Y, Y, Y, Y, Y, Y, Z, Z, Z, Z, Z, Z, Z] (fun s_ => [(15, .agg #[.int .i64 t227, .int .i64 t228]), (17, .agg #[.int .i64 t229, .int .i64 t230]), (19, .agg #[.int .i64 t231, .int .i64 t232]), (21, .agg #[.int .i64 t233, .int .i64 t234])]) (fun s_ w' => (w'.cell? ⟨gb223, 0, none⟩ = some (.int .i64 a0_0) ∧ w'.cell? ⟨gb223, 1, none⟩ = some (.int .i64 a0_1) ∧ w'.cell? ⟨gb224, 0, none⟩ = some (.int .i64 a1_0) ∧ w'.cell? ⟨gb224, 1, none⟩ = some (.int .i64 a1_1) ∧ w'.cell? ⟨gb225, 0, none⟩ = some (.int .i64 a2_0) ∧ w'.cell? ⟨gb225, 1, none⟩ = some (.int .i64 a2_1) ∧ w'.cell? ⟨gb226, 0, none⟩ = some (.int .i64 a3_0) ∧ w'.cell? ⟨gb226, 1, none⟩ = some (.int .i64 a3_1)) ∧ (w'.heap[gb223]? = some (.cells #[.int .i64 a0_0, .int .i64 a0_1] 23 (0, 0))) ∧ (w'.heap[gb224]? = some (.cells #[.int .i64 a1_0, .int .i64 a1_1] 23 (0, 0))) ∧ (w'.heap[gb225]? = some (.cells #[.int .i64 a2_0, .int .i64 a2_1] 23 (0, 0))) ∧ (w'.heap[gb226]? = some (.cells #[.int .i64 a3_0, .int .i64 a3_1] 23 (0, 0))) ∧ (Below w.heap.size w w')) ?_ ?_
      rotate_left
      ·
       intro hJ1_3_5_7
       refine join_ (σ := Nat) 7 #[Y, Y, Y, Y, Y, Y, Y, Z, Z, Z, Z, Z, Y, Z, Z] (fun s_ => [(15, .agg #[.int .i64 t227, .int .i64 t228]), (17, .agg #[.int .i64 t229, .int .i64 t230]), (19, .agg #[.int .i64 t231, .int .i64 t232]), (9, .pointer (some ⟨s_, 0, none⟩))]) (fun s_ w' => (w'.cell? ⟨gb223, 0, none⟩ = some (.int .i64 a0_0) ∧ w'.cell? ⟨gb223, 1, none⟩ = some (.int .i64 a0_1) ∧ w'.cell? ⟨gb224, 0, none⟩ = some (.int .i64 a1_0) ∧ w'.cell? ⟨gb224, 1, none⟩ = some (.int .i64 a1_1) ∧ w'.cell? ⟨gb225, 0, none⟩ = some (.int .i64 a2_0) ∧ w'.cell? ⟨gb225, 1, none⟩ = some (.int .i64 a2_1) ∧ w'.cell? ⟨gb226, 0, none⟩ = some (.int .i64 a3_0) ∧ w'.cell? ⟨gb226, 1, none⟩ = some (.int .i64 a3_1)) ∧ (w'.heap[gb223]? = some (.cells #[.int .i64 a0_0, .int .i64 a0_1] 23 (0, 0))) ∧ (w'.heap[gb224]? = some (.cells #[.int .i64 a1_0, .int .i64 a1_1] 23 (0, 0))) ∧ (w'.heap[gb225]? = some (.cells #[.int .i64 a2_0, .int .i64 a2_1] 23 (0, 0))) ∧ (w'.heap[gb226]? = some (.cells #[.int .i64 a3_0, .int .i64 a3_1] 23 (0, 0))) ∧ (w'.heap[s_]? = some (.cells #[.int .i64 0, .int .i64 0] 24 (0, 0))) ∧ (w.heap.size ≤ s_) ∧ (w.heap.size ≤ s_) ∧ (gb223 ≠ s_) ∧ (s_ ≠ gb223) ∧ (gb224 ≠ s_) ∧ (s_ ≠ gb224) ∧ (gb225 ≠ s_) ∧ (s_ ≠ gb225) ∧ (gb226 ≠ s_) ∧ (s_ ≠ gb226) ∧ (Below w.heap.size w w')) ?_ ?_
       rotate_left
       ·
        intro hJ1_3_5_12
        refine join_ (σ := Unit) 8 #[Y, Y, Y, Y, Y, Y, Y, Z, Z, Z, Z, Z, Z, Z, Z] (fun s_ => [(15, .agg #[.int .i64 t227, .int .i64 t228]), (17, .agg #[.int .i64 t229, .int .i64 t230]), (19, .agg #[.int .i64 t231, .int .i64 t232])]) (fun s_ w' => (w'.cell? ⟨gb223, 0, none⟩ = some (.int .i64 a0_0) ∧ w'.cell? ⟨gb223, 1, none⟩ = some (.int .i64 a0_1) ∧ w'.cell? ⟨gb224, 0, none⟩ = some (.int .i64 a1_0) ∧ w'.cell? ⟨gb224, 1, none⟩ = some (.int .i64 a1_1) ∧ w'.cell? ⟨gb225, 0, none⟩ = some (.int .i64 a2_0) ∧ w'.cell? ⟨gb225, 1, none⟩ = some (.int .i64 a2_1) ∧ w'.cell? ⟨gb226, 0, none⟩ = some (.int .i64 a3_0) ∧ w'.cell? ⟨gb226, 1, none⟩ = some (.int .i64 a3_1)) ∧ (w'.heap[gb223]? = some (.cells #[.int .i64 a0_0, .int .i64 a0_1] 23 (0, 0))) ∧ (w'.heap[gb224]? = some (.cells #[.int .i64 a1_0, .int .i64 a1_1] 23 (0, 0))) ∧ (w'.heap[gb225]? = some (.cells #[.int .i64 a2_0, .int .i64 a2_1] 23 (0, 0))) ∧ (w'.heap[gb226]? = some (.cells #[.int .i64 a3_0, .int .i64 a3_1] 23 (0, 0))) ∧ (Below w.heap.size w w')) ?_ ?_
        rotate_left
        ·
         intro hJ1_3_5
         refine join_ (σ := Nat) 8 #[Y, Y, Y, Y, Y, Z, Y, Z, Z, Z, Z, Z, Y, Z, Z] (fun s_ => [(15, .agg #[.int .i64 t227, .int .i64 t228]), (17, .agg #[.int .i64 t229, .int .i64 t230]), (9, .pointer (some ⟨s_, 0, none⟩))]) (fun s_ w' => (w'.cell? ⟨gb223, 0, none⟩ = some (.int .i64 a0_0) ∧ w'.cell? ⟨gb223, 1, none⟩ = some (.int .i64 a0_1) ∧ w'.cell? ⟨gb224, 0, none⟩ = some (.int .i64 a1_0) ∧ w'.cell? ⟨gb224, 1, none⟩ = some (.int .i64 a1_1) ∧ w'.cell? ⟨gb225, 0, none⟩ = some (.int .i64 a2_0) ∧ w'.cell? ⟨gb225, 1, none⟩ = some (.int .i64 a2_1) ∧ w'.cell? ⟨gb226, 0, none⟩ = some (.int .i64 a3_0) ∧ w'.cell? ⟨gb226, 1, none⟩ = some (.int .i64 a3_1)) ∧ (w'.heap[gb223]? = some (.cells #[.int .i64 a0_0, .int .i64 a0_1] 23 (0, 0))) ∧ (w'.heap[gb224]? = some (.cells #[.int .i64 a1_0, .int .i64 a1_1] 23 (0, 0))) ∧ (w'.heap[gb225]? = some (.cells #[.int .i64 a2_0, .int .i64 a2_1] 23 (0, 0))) ∧ (w'.heap[gb226]? = some (.cells #[.int .i64 a3_0, .int .i64 a3_1] 23 (0, 0))) ∧ (w'.heap[s_]? = some (.cells #[.int .i64 0, .int .i64 0] 24 (0, 0))) ∧ (w.heap.size ≤ s_) ∧ (w.heap.size ≤ s_) ∧ (gb223 ≠ s_) ∧ (s_ ≠ gb223) ∧ (gb224 ≠ s_) ∧ (s_ ≠ gb224) ∧ (gb225 ≠ s_) ∧ (s_ ≠ gb225) ∧ (gb226 ≠ s_) ∧ (s_ ≠ gb226) ∧ (Below w.heap.size w w')) ?_ ?_
         rotate_left
         ·
          intro hJ1_3_12
          refine join_ (σ := Unit) 9 #[Y, Y, Y, Y, Y, Z, Y, Z, Z, Z, Z, Z, Z, Z, Z] (fun s_ => [(15, .agg #[.int .i64 t227, .int .i64 t228]), (17, .agg #[.int .i64 t229, .int .i64 t230])]) (fun s_ w' => (w'.cell? ⟨gb223, 0, none⟩ = some (.int .i64 a0_0) ∧ w'.cell? ⟨gb223, 1, none⟩ = some (.int .i64 a0_1) ∧ w'.cell? ⟨gb224, 0, none⟩ = some (.int .i64 a1_0) ∧ w'.cell? ⟨gb224, 1, none⟩ = some (.int .i64 a1_1) ∧ w'.cell? ⟨gb225, 0, none⟩ = some (.int .i64 a2_0) ∧ w'.cell? ⟨gb225, 1, none⟩ = some (.int .i64 a2_1) ∧ w'.cell? ⟨gb226, 0, none⟩ = some (.int .i64 a3_0) ∧ w'.cell? ⟨gb226, 1, none⟩ = some (.int .i64 a3_1)) ∧ (w'.heap[gb223]? = some (.cells #[.int .i64 a0_0, .int .i64 a0_1] 23 (0, 0))) ∧ (w'.heap[gb224]? = some (.cells #[.int .i64 a1_0, .int .i64 a1_1] 23 (0, 0))) ∧ (w'.heap[gb225]? = some (.cells #[.int .i64 a2_0, .int .i64 a2_1] 23 (0, 0))) ∧ (w'.heap[gb226]? = some (.cells #[.int .i64 a3_0, .int .i64 a3_1] 23 (0, 0))) ∧ (Below w.heap.size w w')) ?_ ?_
          rotate_left
          ·
           intro hJ1_3
           refine join_ (σ := Nat) 9 #[Y, Y, Y, Z, Y, Z, Y, Z, Z, Z, Z, Z, Y, Z, Z] (fun s_ => [(15, .agg #[.int .i64 t227, .int .i64 t228]), (9, .pointer (some ⟨s_, 0, none⟩))]) (fun s_ w' => (w'.cell? ⟨gb223, 0, none⟩ = some (.int .i64 a0_0) ∧ w'.cell? ⟨gb223, 1, none⟩ = some (.int .i64 a0_1) ∧ w'.cell? ⟨gb224, 0, none⟩ = some (.int .i64 a1_0) ∧ w'.cell? ⟨gb224, 1, none⟩ = some (.int .i64 a1_1) ∧ w'.cell? ⟨gb225, 0, none⟩ = some (.int .i64 a2_0) ∧ w'.cell? ⟨gb225, 1, none⟩ = some (.int .i64 a2_1) ∧ w'.cell? ⟨gb226, 0, none⟩ = some (.int .i64 a3_0) ∧ w'.cell? ⟨gb226, 1, none⟩ = some (.int .i64 a3_1)) ∧ (w'.heap[gb223]? = some (.cells #[.int .i64 a0_0, .int .i64 a0_1] 23 (0, 0))) ∧ (w'.heap[gb224]? = some (.cells #[.int .i64 a1_0, .int .i64 a1_1] 23 (0, 0))) ∧ (w'.heap[gb225]? = some (.cells #[.int .i64 a2_0, .int .i64 a2_1] 23 (0, 0))) ∧ (w'.heap[gb226]? = some (.cells #[.int .i64 a3_0, .int .i64 a3_1] 23 (0, 0))) ∧ (w'.heap[s_]? = some (.cells #[.int .i64 0, .int .i64 0] 24 (0, 0))) ∧ (w.heap.size ≤ s_) ∧ (w.heap.size ≤ s_) ∧ (gb223 ≠ s_) ∧ (s_ ≠ gb223) ∧ (gb224 ≠ s_) ∧ (s_ ≠ gb224) ∧ (gb225 ≠ s_) ∧ (s_ ≠ gb225) ∧ (gb226 ≠ s_) ∧ (s_ ≠ gb226) ∧ (Below w.heap.size w w')) ?_ ?_
           rotate_left
           ·
            intro hJ1_12
            refine join_ (σ := Unit) 10 #[Y, Y, Y, Z, Y, Z, Y, Z, Z, Z, Z, Z, Z, Z, Z] (fun s_ => [(15, .agg #[.int .i64 t227, .int .i64 t228])]) (fun s_ w' => (w'.cell? ⟨gb223, 0, none⟩ = some (.int .i64 a0_0) ∧ w'.cell? ⟨gb223, 1, none⟩ = some (.int .i64 a0_1) ∧ w'.cell? ⟨gb224, 0, none⟩ = some (.int .i64 a1_0) ∧ w'.cell? ⟨gb224, 1, none⟩ = some (.int .i64 a1_1) ∧ w'.cell? ⟨gb225, 0, none⟩ = some (.int .i64 a2_0) ∧ w'.cell? ⟨gb225, 1, none⟩ = some (.int .i64 a2_1) ∧ w'.cell? ⟨gb226, 0, none⟩ = some (.int .i64 a3_0) ∧ w'.cell? ⟨gb226, 1, none⟩ = some (.int .i64 a3_1)) ∧ (w'.heap[gb223]? = some (.cells #[.int .i64 a0_0, .int .i64 a0_1] 23 (0, 0))) ∧ (w'.heap[gb224]? = some (.cells #[.int .i64 a1_0, .int .i64 a1_1] 23 (0, 0))) ∧ (w'.heap[gb225]? = some (.cells #[.int .i64 a2_0, .int .i64 a2_1] 23 (0, 0))) ∧ (w'.heap[gb226]? = some (.cells #[.int .i64 a3_0, .int .i64 a3_1] 23 (0, 0))) ∧ (Below w.heap.size w w')) ?_ ?_
            rotate_left
            ·
             intro hJ1
             refine join_ (σ := Nat) 10 #[Y, Z, Y, Z, Y, Z, Y, Z, Z, Z, Z, Z, Y, Z, Z] (fun s_ => [(9, .pointer (some ⟨s_, 0, none⟩))]) (fun s_ w' => (w'.cell? ⟨gb223, 0, none⟩ = some (.int .i64 a0_0) ∧ w'.cell? ⟨gb223, 1, none⟩ = some (.int .i64 a0_1) ∧ w'.cell? ⟨gb224, 0, none⟩ = some (.int .i64 a1_0) ∧ w'.cell? ⟨gb224, 1, none⟩ = some (.int .i64 a1_1) ∧ w'.cell? ⟨gb225, 0, none⟩ = some (.int .i64 a2_0) ∧ w'.cell? ⟨gb225, 1, none⟩ = some (.int .i64 a2_1) ∧ w'.cell? ⟨gb226, 0, none⟩ = some (.int .i64 a3_0) ∧ w'.cell? ⟨gb226, 1, none⟩ = some (.int .i64 a3_1)) ∧ (w'.heap[gb223]? = some (.cells #[.int .i64 a0_0, .int .i64 a0_1] 23 (0, 0))) ∧ (w'.heap[gb224]? = some (.cells #[.int .i64 a1_0, .int .i64 a1_1] 23 (0, 0))) ∧ (w'.heap[gb225]? = some (.cells #[.int .i64 a2_0, .int .i64 a2_1] 23 (0, 0))) ∧ (w'.heap[gb226]? = some (.cells #[.int .i64 a3_0, .int .i64 a3_1] 23 (0, 0))) ∧ (w'.heap[s_]? = some (.cells #[.int .i64 0, .int .i64 0] 24 (0, 0))) ∧ (w.heap.size ≤ s_) ∧ (w.heap.size ≤ s_) ∧ (gb223 ≠ s_) ∧ (s_ ≠ gb223) ∧ (gb224 ≠ s_) ∧ (s_ ≠ gb224) ∧ (gb225 ≠ s_) ∧ (s_ ≠ gb225) ∧ (gb226 ≠ s_) ∧ (s_ ≠ gb226) ∧ (Below w.heap.size w w')) ?_ ?_
             rotate_left
             ·
              intro hJ12
              refine two_ (i := 1) (j := 12) (Ni := some 15) (Nj := some 9) #[Y, Y, Y, Z, Y, Z, Y, Z, Z, Z, Z, Z, Z, Z, Z] #[Y, Z, Y, Z, Y, Z, Y, Z, Z, Z, Z, Z, Y, Z, Z] rfl rfl rfl rfl (two_of HT_.out (by kernel_rfl)) (by decide) (by decide) (fun K hK => ?_) (fun K hK => ?_)
              ·
               skip
               refine goes_ Try.func5 (by kernel_rfl) rfl #[.agg #[.int .i64 a0_0, .int .i64 a0_1]] (by rfl) rfl rfl hA ?_
               with_reducible refine (laws_toEnd.calls a0_0 a0_1 t227 t228 _ A5.out).mono ?_
               rintro e w23 ⟨rfl, hb⟩
               refine ⟨_, rfl, ?_⟩
               replace BK223 := kB BK223 hb
               replace BK224 := kB BK224 hb
               replace BK225 := kB BK225 hb
               replace BK226 := kB BK226 hb
               replace HB := lB hb
               (try clear hb)
               (try clear hb2)
               (try clear hk)
               (try clear hi)
               refine hK.out _ _ ⟨cA BK223 0, cA BK223 1, cA BK224 0, cA BK224 1, cA BK225 0, cA BK225 1, cA BK226 0, cA BK226 1⟩ (fun hHeld => ?_)
               clear hK K
               refine norm_ (a' := ?_) ?_ ?_
               rotate_left
               ·
                show Act.put _ (some 15) _ = _
                simp only [pA]
                rfl
               exact norm_ (by first | (simp only [putAll, Act.put, List.setIfInBounds_toArray, List.set_cons_zero, List.set_cons_succ]; done) | (simp only [putAll, Act.put, List.setIfInBounds_toArray, List.set_cons_zero, List.set_cons_succ]; rfl)) (hJ1 () _ ⟨hHeld, (bkA BK223), (bkA BK224), (bkA BK225), (bkA BK226), blA⟩)
              ·
               skip
               refine box_step ?hg (N := 9) ?hd (cs := #[.int .i64 0, .int .i64 0]) (t := 24) ?hr ?_; (case hd => rfl); (case hg => rfl); (case hr => first | (go_simp; done) | (go_simp; rfl))
               intro gb238 hg w23 hbox hb
               have BK238 := Aside0.mk (hbox)
               have GW238 := sA hg
               have GE238 := sA hg
               have NB223_238 := nA hg BK223
               have NB238_223 := nB hg BK223
               have NB224_238 := nA hg BK224
               have NB238_224 := nB hg BK224
               have NB225_238 := nA hg BK225
               have NB238_225 := nB hg BK225
               have NB226_238 := nA hg BK226
               have NB238_226 := nB hg BK226
               replace BK223 := kB BK223 hb
               replace BK224 := kB BK224 hb
               replace BK225 := kB BK225 hb
               replace BK226 := kB BK226 hb
               replace HB := lB hb
               clear hb hbox hg
               refine hK.out _ _ ⟨cA BK223 0, cA BK223 1, cA BK224 0, cA BK224 1, cA BK225 0, cA BK225 1, cA BK226 0, cA BK226 1⟩ (fun hHeld => ?_)
               clear hK K
               refine norm_ (a' := ?_) ?_ ?_
               rotate_left
               ·
                show Act.put _ (some 9) _ = _
                simp only [pA]
                rfl
               exact norm_ (by first | (simp only [putAll, Act.put, List.setIfInBounds_toArray, List.set_cons_zero, List.set_cons_succ]; done) | (simp only [putAll, Act.put, List.setIfInBounds_toArray, List.set_cons_zero, List.set_cons_succ]; rfl)) (hJ12 (gb238) _ ⟨hHeld, (bkA BK223), (bkA BK224), (bkA BK225), (bkA BK226), (bkA BK238), GW238.out, GE238.out, NB223_238.out, NB238_223.out, NB224_238.out, NB238_224.out, NB225_238.out, NB238_225.out, NB226_238.out, NB238_226.out, blA⟩)
             ·
              skip
              rintro gb238 w24 ⟨hS_, h0_, h1_, h2_, h3_, h4_, h5_, h6_, h7_, h8_, h9_, h10_, h11_, h12_, h13_, h14_, h15_⟩
              have BK238 := Aside0.mk h4_
              have GW238 := Aside0.mk h5_
              have GE238 := Aside0.mk h6_
              have NB223_238 := Aside0.mk h7_
              have NB238_223 := Aside0.mk h8_
              have NB224_238 := Aside0.mk h9_
              have NB238_224 := Aside0.mk h10_
              have NB225_238 := Aside0.mk h11_
              have NB238_225 := Aside0.mk h12_
              have NB226_238 := Aside0.mk h13_
              have NB238_226 := Aside0.mk h14_
              replace BK223 := Aside0.mk h0_
              replace BK224 := Aside0.mk h1_
              replace BK225 := Aside0.mk h2_
              replace BK226 := Aside0.mk h3_
              replace HB := Aside0.mk h15_
              clear h0_ h1_ h2_ h3_ h4_ h5_ h6_ h7_ h8_ h9_ h10_ h11_ h12_ h13_ h14_ h15_
              have hHeld : w24.cell? ⟨gb223, 0, none⟩ = some (.int .i64 a0_0) ∧ w24.cell? ⟨gb223, 1, none⟩ = some (.int .i64 a0_1) ∧ w24.cell? ⟨gb224, 0, none⟩ = some (.int .i64 a1_0) ∧ w24.cell? ⟨gb224, 1, none⟩ = some (.int .i64 a1_1) ∧ w24.cell? ⟨gb225, 0, none⟩ = some (.int .i64 a2_0) ∧ w24.cell? ⟨gb225, 1, none⟩ = some (.int .i64 a2_1) ∧ w24.cell? ⟨gb226, 0, none⟩ = some (.int .i64 a3_0) ∧ w24.cell? ⟨gb226, 1, none⟩ = some (.int .i64 a3_1) := hS_
              refine norm_ (a' := ?_) ?_ ?_
              rotate_left
              ·
               simp only [putAll, Act.put, List.setIfInBounds_toArray, List.set_cons_zero, List.set_cons_succ]
               rfl
              refine one_ (i := 1) (N := some 15) #[Y, Y, Y, Z, Y, Z, Y, Z, Z, Z, Z, Z, Y, Z, Z] rfl rfl (one_of HT_.out (by kernel_rfl)) (by decide) (fun K hK => ?_)
              refine goes_ Try.func5 (by kernel_rfl) rfl #[.agg #[.int .i64 a0_0, .int .i64 a0_1]] (by rfl) rfl rfl hA ?_
              with_reducible refine (laws_toEnd.calls a0_0 a0_1 t227 t228 _ A5.out).mono ?_
              rintro e w25 ⟨rfl, hb⟩
              refine ⟨_, rfl, ?_⟩
              replace BK223 := kB BK223 hb
              replace BK224 := kB BK224 hb
              replace BK225 := kB BK225 hb
              replace BK226 := kB BK226 hb
              replace BK238 := kB BK238 hb
              replace HB := lB hb
              (try clear hb)
              (try clear hb2)
              (try clear hk)
              (try clear hi)
              refine hK.out _ _ ⟨cA BK223 0, cA BK223 1, cA BK224 0, cA BK224 1, cA BK225 0, cA BK225 1, cA BK226 0, cA BK226 1⟩ (fun hHeld => ?_)
              clear hK K
              refine norm_ (a' := ?_) ?_ ?_
              rotate_left
              ·
               show Act.put _ (some 15) _ = _
               simp only [pA]
               rfl
              exact norm_ (by first | (simp only [putAll, Act.put, List.setIfInBounds_toArray, List.set_cons_zero, List.set_cons_succ]; done) | (simp only [putAll, Act.put, List.setIfInBounds_toArray, List.set_cons_zero, List.set_cons_succ]; rfl)) (hJ1_12 (gb238) _ ⟨hHeld, (bkA BK223), (bkA BK224), (bkA BK225), (bkA BK226), (bkA BK238), GW238.out, GE238.out, NB223_238.out, NB238_223.out, NB224_238.out, NB238_224.out, NB225_238.out, NB238_225.out, NB226_238.out, NB238_226.out, blA⟩)
            ·
             skip
             rintro _ w24 ⟨hS_, h0_, h1_, h2_, h3_, h4_⟩
             replace BK223 := Aside0.mk h0_
             replace BK224 := Aside0.mk h1_
             replace BK225 := Aside0.mk h2_
             replace BK226 := Aside0.mk h3_
             replace HB := Aside0.mk h4_
             clear h0_ h1_ h2_ h3_ h4_
             have hHeld : w24.cell? ⟨gb223, 0, none⟩ = some (.int .i64 a0_0) ∧ w24.cell? ⟨gb223, 1, none⟩ = some (.int .i64 a0_1) ∧ w24.cell? ⟨gb224, 0, none⟩ = some (.int .i64 a1_0) ∧ w24.cell? ⟨gb224, 1, none⟩ = some (.int .i64 a1_1) ∧ w24.cell? ⟨gb225, 0, none⟩ = some (.int .i64 a2_0) ∧ w24.cell? ⟨gb225, 1, none⟩ = some (.int .i64 a2_1) ∧ w24.cell? ⟨gb226, 0, none⟩ = some (.int .i64 a3_0) ∧ w24.cell? ⟨gb226, 1, none⟩ = some (.int .i64 a3_1) := hS_
             refine norm_ (a' := ?_) ?_ ?_
             rotate_left
             ·
              simp only [putAll, Act.put, List.setIfInBounds_toArray, List.set_cons_zero, List.set_cons_succ]
              rfl
             refine two_ (i := 3) (j := 12) (Ni := some 17) (Nj := some 9) #[Y, Y, Y, Y, Y, Z, Y, Z, Z, Z, Z, Z, Z, Z, Z] #[Y, Y, Y, Z, Y, Z, Y, Z, Z, Z, Z, Z, Y, Z, Z] rfl rfl rfl rfl (two_of HT_.out (by kernel_rfl)) (by decide) (by decide) (fun K hK => ?_) (fun K hK => ?_)
             ·
              skip
              refine goes_ Try.func5 (by kernel_rfl) rfl #[.agg #[.int .i64 a1_0, .int .i64 a1_1]] (by rfl) rfl rfl hA ?_
              with_reducible refine (laws_toEnd.calls a1_0 a1_1 t229 t230 _ A6.out).mono ?_
              rintro e w25 ⟨rfl, hb⟩
              refine ⟨_, rfl, ?_⟩
              replace BK223 := kB BK223 hb
              replace BK224 := kB BK224 hb
              replace BK225 := kB BK225 hb
              replace BK226 := kB BK226 hb
              replace HB := lB hb
              (try clear hb)
              (try clear hb2)
              (try clear hk)
              (try clear hi)
              refine hK.out _ _ ⟨cA BK223 0, cA BK223 1, cA BK224 0, cA BK224 1, cA BK225 0, cA BK225 1, cA BK226 0, cA BK226 1⟩ (fun hHeld => ?_)
              clear hK K
              refine norm_ (a' := ?_) ?_ ?_
              rotate_left
              ·
               show Act.put _ (some 17) _ = _
               simp only [pA]
               rfl
              exact norm_ (by first | (simp only [putAll, Act.put, List.setIfInBounds_toArray, List.set_cons_zero, List.set_cons_succ]; done) | (simp only [putAll, Act.put, List.setIfInBounds_toArray, List.set_cons_zero, List.set_cons_succ]; rfl)) (hJ1_3 () _ ⟨hHeld, (bkA BK223), (bkA BK224), (bkA BK225), (bkA BK226), blA⟩)
             ·
              skip
              refine box_step ?hg (N := 9) ?hd (cs := #[.int .i64 0, .int .i64 0]) (t := 24) ?hr ?_; (case hd => rfl); (case hg => rfl); (case hr => first | (go_simp; done) | (go_simp; rfl))
              intro gb238 hg w25 hbox hb
              have BK238 := Aside0.mk (hbox)
              have GW238 := sA hg
              have GE238 := sA hg
              have NB223_238 := nA hg BK223
              have NB238_223 := nB hg BK223
              have NB224_238 := nA hg BK224
              have NB238_224 := nB hg BK224
              have NB225_238 := nA hg BK225
              have NB238_225 := nB hg BK225
              have NB226_238 := nA hg BK226
              have NB238_226 := nB hg BK226
              replace BK223 := kB BK223 hb
              replace BK224 := kB BK224 hb
              replace BK225 := kB BK225 hb
              replace BK226 := kB BK226 hb
              replace HB := lB hb
              clear hb hbox hg
              refine hK.out _ _ ⟨cA BK223 0, cA BK223 1, cA BK224 0, cA BK224 1, cA BK225 0, cA BK225 1, cA BK226 0, cA BK226 1⟩ (fun hHeld => ?_)
              clear hK K
              refine norm_ (a' := ?_) ?_ ?_
              rotate_left
              ·
               show Act.put _ (some 9) _ = _
               simp only [pA]
               rfl
              exact norm_ (by first | (simp only [putAll, Act.put, List.setIfInBounds_toArray, List.set_cons_zero, List.set_cons_succ]; done) | (simp only [putAll, Act.put, List.setIfInBounds_toArray, List.set_cons_zero, List.set_cons_succ]; rfl)) (hJ1_12 (gb238) _ ⟨hHeld, (bkA BK223), (bkA BK224), (bkA BK225), (bkA BK226), (bkA BK238), GW238.out, GE238.out, NB223_238.out, NB238_223.out, NB224_238.out, NB238_224.out, NB225_238.out, NB238_225.out, NB226_238.out, NB238_226.out, blA⟩)
           ·
            skip
            rintro gb238 w25 ⟨hS_, h0_, h1_, h2_, h3_, h4_, h5_, h6_, h7_, h8_, h9_, h10_, h11_, h12_, h13_, h14_, h15_⟩
            have BK238 := Aside0.mk h4_
            have GW238 := Aside0.mk h5_
            have GE238 := Aside0.mk h6_
            have NB223_238 := Aside0.mk h7_
            have NB238_223 := Aside0.mk h8_
            have NB224_238 := Aside0.mk h9_
            have NB238_224 := Aside0.mk h10_
            have NB225_238 := Aside0.mk h11_
            have NB238_225 := Aside0.mk h12_
            have NB226_238 := Aside0.mk h13_
            have NB238_226 := Aside0.mk h14_
            replace BK223 := Aside0.mk h0_
            replace BK224 := Aside0.mk h1_
            replace BK225 := Aside0.mk h2_
            replace BK226 := Aside0.mk h3_
            replace HB := Aside0.mk h15_
            clear h0_ h1_ h2_ h3_ h4_ h5_ h6_ h7_ h8_ h9_ h10_ h11_ h12_ h13_ h14_ h15_
            have hHeld : w25.cell? ⟨gb223, 0, none⟩ = some (.int .i64 a0_0) ∧ w25.cell? ⟨gb223, 1, none⟩ = some (.int .i64 a0_1) ∧ w25.cell? ⟨gb224, 0, none⟩ = some (.int .i64 a1_0) ∧ w25.cell? ⟨gb224, 1, none⟩ = some (.int .i64 a1_1) ∧ w25.cell? ⟨gb225, 0, none⟩ = some (.int .i64 a2_0) ∧ w25.cell? ⟨gb225, 1, none⟩ = some (.int .i64 a2_1) ∧ w25.cell? ⟨gb226, 0, none⟩ = some (.int .i64 a3_0) ∧ w25.cell? ⟨gb226, 1, none⟩ = some (.int .i64 a3_1) := hS_
            refine norm_ (a' := ?_) ?_ ?_
            rotate_left
            ·
             simp only [putAll, Act.put, List.setIfInBounds_toArray, List.set_cons_zero, List.set_cons_succ]
             rfl
            refine one_ (i := 3) (N := some 17) #[Y, Y, Y, Y, Y, Z, Y, Z, Z, Z, Z, Z, Y, Z, Z] rfl rfl (one_of HT_.out (by kernel_rfl)) (by decide) (fun K hK => ?_)
            refine goes_ Try.func5 (by kernel_rfl) rfl #[.agg #[.int .i64 a1_0, .int .i64 a1_1]] (by rfl) rfl rfl hA ?_
            with_reducible refine (laws_toEnd.calls a1_0 a1_1 t229 t230 _ A6.out).mono ?_
            rintro e w26 ⟨rfl, hb⟩
            refine ⟨_, rfl, ?_⟩
            replace BK223 := kB BK223 hb
            replace BK224 := kB BK224 hb
            replace BK225 := kB BK225 hb
            replace BK226 := kB BK226 hb
            replace BK238 := kB BK238 hb
            replace HB := lB hb
            (try clear hb)
            (try clear hb2)
            (try clear hk)
            (try clear hi)
            refine hK.out _ _ ⟨cA BK223 0, cA BK223 1, cA BK224 0, cA BK224 1, cA BK225 0, cA BK225 1, cA BK226 0, cA BK226 1⟩ (fun hHeld => ?_)
            clear hK K
            refine norm_ (a' := ?_) ?_ ?_
            rotate_left
            ·
             show Act.put _ (some 17) _ = _
             simp only [pA]
             rfl
            exact norm_ (by first | (simp only [putAll, Act.put, List.setIfInBounds_toArray, List.set_cons_zero, List.set_cons_succ]; done) | (simp only [putAll, Act.put, List.setIfInBounds_toArray, List.set_cons_zero, List.set_cons_succ]; rfl)) (hJ1_3_12 (gb238) _ ⟨hHeld, (bkA BK223), (bkA BK224), (bkA BK225), (bkA BK226), (bkA BK238), GW238.out, GE238.out, NB223_238.out, NB238_223.out, NB224_238.out, NB238_224.out, NB225_238.out, NB238_225.out, NB226_238.out, NB238_226.out, blA⟩)
          ·
           skip
           rintro _ w25 ⟨hS_, h0_, h1_, h2_, h3_, h4_⟩
           replace BK223 := Aside0.mk h0_
           replace BK224 := Aside0.mk h1_
           replace BK225 := Aside0.mk h2_
           replace BK226 := Aside0.mk h3_
           replace HB := Aside0.mk h4_
           clear h0_ h1_ h2_ h3_ h4_
           have hHeld : w25.cell? ⟨gb223, 0, none⟩ = some (.int .i64 a0_0) ∧ w25.cell? ⟨gb223, 1, none⟩ = some (.int .i64 a0_1) ∧ w25.cell? ⟨gb224, 0, none⟩ = some (.int .i64 a1_0) ∧ w25.cell? ⟨gb224, 1, none⟩ = some (.int .i64 a1_1) ∧ w25.cell? ⟨gb225, 0, none⟩ = some (.int .i64 a2_0) ∧ w25.cell? ⟨gb225, 1, none⟩ = some (.int .i64 a2_1) ∧ w25.cell? ⟨gb226, 0, none⟩ = some (.int .i64 a3_0) ∧ w25.cell? ⟨gb226, 1, none⟩ = some (.int .i64 a3_1) := hS_
           refine norm_ (a' := ?_) ?_ ?_
           rotate_left
           ·
            simp only [putAll, Act.put, List.setIfInBounds_toArray, List.set_cons_zero, List.set_cons_succ]
            rfl
           refine two_ (i := 5) (j := 12) (Ni := some 19) (Nj := some 9) #[Y, Y, Y, Y, Y, Y, Y, Z, Z, Z, Z, Z, Z, Z, Z] #[Y, Y, Y, Y, Y, Z, Y, Z, Z, Z, Z, Z, Y, Z, Z] rfl rfl rfl rfl (two_of HT_.out (by kernel_rfl)) (by decide) (by decide) (fun K hK => ?_) (fun K hK => ?_)
           ·
            skip
            refine goes_ Try.func5 (by kernel_rfl) rfl #[.agg #[.int .i64 a2_0, .int .i64 a2_1]] (by rfl) rfl rfl hA ?_
            with_reducible refine (laws_toEnd.calls a2_0 a2_1 t231 t232 _ A7.out).mono ?_
            rintro e w26 ⟨rfl, hb⟩
            refine ⟨_, rfl, ?_⟩
            replace BK223 := kB BK223 hb
            replace BK224 := kB BK224 hb
            replace BK225 := kB BK225 hb
            replace BK226 := kB BK226 hb
            replace HB := lB hb
            (try clear hb)
            (try clear hb2)
            (try clear hk)
            (try clear hi)
            refine hK.out _ _ ⟨cA BK223 0, cA BK223 1, cA BK224 0, cA BK224 1, cA BK225 0, cA BK225 1, cA BK226 0, cA BK226 1⟩ (fun hHeld => ?_)
            clear hK K
            refine norm_ (a' := ?_) ?_ ?_
            rotate_left
            ·
             show Act.put _ (some 19) _ = _
             simp only [pA]
             rfl
            exact norm_ (by first | (simp only [putAll, Act.put, List.setIfInBounds_toArray, List.set_cons_zero, List.set_cons_succ]; done) | (simp only [putAll, Act.put, List.setIfInBounds_toArray, List.set_cons_zero, List.set_cons_succ]; rfl)) (hJ1_3_5 () _ ⟨hHeld, (bkA BK223), (bkA BK224), (bkA BK225), (bkA BK226), blA⟩)
           ·
            skip
            refine box_step ?hg (N := 9) ?hd (cs := #[.int .i64 0, .int .i64 0]) (t := 24) ?hr ?_; (case hd => rfl); (case hg => rfl); (case hr => first | (go_simp; done) | (go_simp; rfl))
            intro gb238 hg w26 hbox hb
            have BK238 := Aside0.mk (hbox)
            have GW238 := sA hg
            have GE238 := sA hg
            have NB223_238 := nA hg BK223
            have NB238_223 := nB hg BK223
            have NB224_238 := nA hg BK224
            have NB238_224 := nB hg BK224
            have NB225_238 := nA hg BK225
            have NB238_225 := nB hg BK225
            have NB226_238 := nA hg BK226
            have NB238_226 := nB hg BK226
            replace BK223 := kB BK223 hb
            replace BK224 := kB BK224 hb
            replace BK225 := kB BK225 hb
            replace BK226 := kB BK226 hb
            replace HB := lB hb
            clear hb hbox hg
            refine hK.out _ _ ⟨cA BK223 0, cA BK223 1, cA BK224 0, cA BK224 1, cA BK225 0, cA BK225 1, cA BK226 0, cA BK226 1⟩ (fun hHeld => ?_)
            clear hK K
            refine norm_ (a' := ?_) ?_ ?_
            rotate_left
            ·
             show Act.put _ (some 9) _ = _
             simp only [pA]
             rfl
            exact norm_ (by first | (simp only [putAll, Act.put, List.setIfInBounds_toArray, List.set_cons_zero, List.set_cons_succ]; done) | (simp only [putAll, Act.put, List.setIfInBounds_toArray, List.set_cons_zero, List.set_cons_succ]; rfl)) (hJ1_3_12 (gb238) _ ⟨hHeld, (bkA BK223), (bkA BK224), (bkA BK225), (bkA BK226), (bkA BK238), GW238.out, GE238.out, NB223_238.out, NB238_223.out, NB224_238.out, NB238_224.out, NB225_238.out, NB238_225.out, NB226_238.out, NB238_226.out, blA⟩)
         ·
          skip
          rintro gb238 w26 ⟨hS_, h0_, h1_, h2_, h3_, h4_, h5_, h6_, h7_, h8_, h9_, h10_, h11_, h12_, h13_, h14_, h15_⟩
          have BK238 := Aside0.mk h4_
          have GW238 := Aside0.mk h5_
          have GE238 := Aside0.mk h6_
          have NB223_238 := Aside0.mk h7_
          have NB238_223 := Aside0.mk h8_
          have NB224_238 := Aside0.mk h9_
          have NB238_224 := Aside0.mk h10_
          have NB225_238 := Aside0.mk h11_
          have NB238_225 := Aside0.mk h12_
          have NB226_238 := Aside0.mk h13_
          have NB238_226 := Aside0.mk h14_
          replace BK223 := Aside0.mk h0_
          replace BK224 := Aside0.mk h1_
          replace BK225 := Aside0.mk h2_
          replace BK226 := Aside0.mk h3_
          replace HB := Aside0.mk h15_
          clear h0_ h1_ h2_ h3_ h4_ h5_ h6_ h7_ h8_ h9_ h10_ h11_ h12_ h13_ h14_ h15_
          have hHeld : w26.cell? ⟨gb223, 0, none⟩ = some (.int .i64 a0_0) ∧ w26.cell? ⟨gb223, 1, none⟩ = some (.int .i64 a0_1) ∧ w26.cell? ⟨gb224, 0, none⟩ = some (.int .i64 a1_0) ∧ w26.cell? ⟨gb224, 1, none⟩ = some (.int .i64 a1_1) ∧ w26.cell? ⟨gb225, 0, none⟩ = some (.int .i64 a2_0) ∧ w26.cell? ⟨gb225, 1, none⟩ = some (.int .i64 a2_1) ∧ w26.cell? ⟨gb226, 0, none⟩ = some (.int .i64 a3_0) ∧ w26.cell? ⟨gb226, 1, none⟩ = some (.int .i64 a3_1) := hS_
          refine norm_ (a' := ?_) ?_ ?_
          rotate_left
          ·
           simp only [putAll, Act.put, List.setIfInBounds_toArray, List.set_cons_zero, List.set_cons_succ]
           rfl
          refine one_ (i := 5) (N := some 19) #[Y, Y, Y, Y, Y, Y, Y, Z, Z, Z, Z, Z, Y, Z, Z] rfl rfl (one_of HT_.out (by kernel_rfl)) (by decide) (fun K hK => ?_)
          refine goes_ Try.func5 (by kernel_rfl) rfl #[.agg #[.int .i64 a2_0, .int .i64 a2_1]] (by rfl) rfl rfl hA ?_
          with_reducible refine (laws_toEnd.calls a2_0 a2_1 t231 t232 _ A7.out).mono ?_
          rintro e w27 ⟨rfl, hb⟩
          refine ⟨_, rfl, ?_⟩
          replace BK223 := kB BK223 hb
          replace BK224 := kB BK224 hb
          replace BK225 := kB BK225 hb
          replace BK226 := kB BK226 hb
          replace BK238 := kB BK238 hb
          replace HB := lB hb
          (try clear hb)
          (try clear hb2)
          (try clear hk)
          (try clear hi)
          refine hK.out _ _ ⟨cA BK223 0, cA BK223 1, cA BK224 0, cA BK224 1, cA BK225 0, cA BK225 1, cA BK226 0, cA BK226 1⟩ (fun hHeld => ?_)
          clear hK K
          refine norm_ (a' := ?_) ?_ ?_
          rotate_left
          ·
           show Act.put _ (some 19) _ = _
           simp only [pA]
           rfl
          exact norm_ (by first | (simp only [putAll, Act.put, List.setIfInBounds_toArray, List.set_cons_zero, List.set_cons_succ]; done) | (simp only [putAll, Act.put, List.setIfInBounds_toArray, List.set_cons_zero, List.set_cons_succ]; rfl)) (hJ1_3_5_12 (gb238) _ ⟨hHeld, (bkA BK223), (bkA BK224), (bkA BK225), (bkA BK226), (bkA BK238), GW238.out, GE238.out, NB223_238.out, NB238_223.out, NB224_238.out, NB238_224.out, NB225_238.out, NB238_225.out, NB226_238.out, NB238_226.out, blA⟩)
        ·
         skip
         rintro _ w26 ⟨hS_, h0_, h1_, h2_, h3_, h4_⟩
         replace BK223 := Aside0.mk h0_
         replace BK224 := Aside0.mk h1_
         replace BK225 := Aside0.mk h2_
         replace BK226 := Aside0.mk h3_
         replace HB := Aside0.mk h4_
         clear h0_ h1_ h2_ h3_ h4_
         have hHeld : w26.cell? ⟨gb223, 0, none⟩ = some (.int .i64 a0_0) ∧ w26.cell? ⟨gb223, 1, none⟩ = some (.int .i64 a0_1) ∧ w26.cell? ⟨gb224, 0, none⟩ = some (.int .i64 a1_0) ∧ w26.cell? ⟨gb224, 1, none⟩ = some (.int .i64 a1_1) ∧ w26.cell? ⟨gb225, 0, none⟩ = some (.int .i64 a2_0) ∧ w26.cell? ⟨gb225, 1, none⟩ = some (.int .i64 a2_1) ∧ w26.cell? ⟨gb226, 0, none⟩ = some (.int .i64 a3_0) ∧ w26.cell? ⟨gb226, 1, none⟩ = some (.int .i64 a3_1) := hS_
         refine norm_ (a' := ?_) ?_ ?_
         rotate_left
         ·
          simp only [putAll, Act.put, List.setIfInBounds_toArray, List.set_cons_zero, List.set_cons_succ]
          rfl
         refine two_ (i := 7) (j := 12) (Ni := some 21) (Nj := some 9) #[Y, Y, Y, Y, Y, Y, Y, Y, Z, Z, Z, Z, Z, Z, Z] #[Y, Y, Y, Y, Y, Y, Y, Z, Z, Z, Z, Z, Y, Z, Z] rfl rfl rfl rfl (two_of HT_.out (by kernel_rfl)) (by decide) (by decide) (fun K hK => ?_) (fun K hK => ?_)
         ·
          skip
          refine goes_ Try.func5 (by kernel_rfl) rfl #[.agg #[.int .i64 a3_0, .int .i64 a3_1]] (by rfl) rfl rfl hA ?_
          with_reducible refine (laws_toEnd.calls a3_0 a3_1 t233 t234 _ A8.out).mono ?_
          rintro e w27 ⟨rfl, hb⟩
          refine ⟨_, rfl, ?_⟩
          replace BK223 := kB BK223 hb
          replace BK224 := kB BK224 hb
          replace BK225 := kB BK225 hb
          replace BK226 := kB BK226 hb
          replace HB := lB hb
          (try clear hb)
          (try clear hb2)
          (try clear hk)
          (try clear hi)
          refine hK.out _ _ ⟨cA BK223 0, cA BK223 1, cA BK224 0, cA BK224 1, cA BK225 0, cA BK225 1, cA BK226 0, cA BK226 1⟩ (fun hHeld => ?_)
          clear hK K
          refine norm_ (a' := ?_) ?_ ?_
          rotate_left
          ·
           show Act.put _ (some 21) _ = _
           simp only [pA]
           rfl
          exact norm_ (by first | (simp only [putAll, Act.put, List.setIfInBounds_toArray, List.set_cons_zero, List.set_cons_succ]; done) | (simp only [putAll, Act.put, List.setIfInBounds_toArray, List.set_cons_zero, List.set_cons_succ]; rfl)) (hJ1_3_5_7 () _ ⟨hHeld, (bkA BK223), (bkA BK224), (bkA BK225), (bkA BK226), blA⟩)
         ·
          skip
          refine box_step ?hg (N := 9) ?hd (cs := #[.int .i64 0, .int .i64 0]) (t := 24) ?hr ?_; (case hd => rfl); (case hg => rfl); (case hr => first | (go_simp; done) | (go_simp; rfl))
          intro gb238 hg w27 hbox hb
          have BK238 := Aside0.mk (hbox)
          have GW238 := sA hg
          have GE238 := sA hg
          have NB223_238 := nA hg BK223
          have NB238_223 := nB hg BK223
          have NB224_238 := nA hg BK224
          have NB238_224 := nB hg BK224
          have NB225_238 := nA hg BK225
          have NB238_225 := nB hg BK225
          have NB226_238 := nA hg BK226
          have NB238_226 := nB hg BK226
          replace BK223 := kB BK223 hb
          replace BK224 := kB BK224 hb
          replace BK225 := kB BK225 hb
          replace BK226 := kB BK226 hb
          replace HB := lB hb
          clear hb hbox hg
          refine hK.out _ _ ⟨cA BK223 0, cA BK223 1, cA BK224 0, cA BK224 1, cA BK225 0, cA BK225 1, cA BK226 0, cA BK226 1⟩ (fun hHeld => ?_)
          clear hK K
          refine norm_ (a' := ?_) ?_ ?_
          rotate_left
          ·
           show Act.put _ (some 9) _ = _
           simp only [pA]
           rfl
          exact norm_ (by first | (simp only [putAll, Act.put, List.setIfInBounds_toArray, List.set_cons_zero, List.set_cons_succ]; done) | (simp only [putAll, Act.put, List.setIfInBounds_toArray, List.set_cons_zero, List.set_cons_succ]; rfl)) (hJ1_3_5_12 (gb238) _ ⟨hHeld, (bkA BK223), (bkA BK224), (bkA BK225), (bkA BK226), (bkA BK238), GW238.out, GE238.out, NB223_238.out, NB238_223.out, NB224_238.out, NB238_224.out, NB225_238.out, NB238_225.out, NB226_238.out, NB238_226.out, blA⟩)
       ·
        skip
        rintro gb238 w27 ⟨hS_, h0_, h1_, h2_, h3_, h4_, h5_, h6_, h7_, h8_, h9_, h10_, h11_, h12_, h13_, h14_, h15_⟩
        have BK238 := Aside0.mk h4_
        have GW238 := Aside0.mk h5_
        have GE238 := Aside0.mk h6_
        have NB223_238 := Aside0.mk h7_
        have NB238_223 := Aside0.mk h8_
        have NB224_238 := Aside0.mk h9_
        have NB238_224 := Aside0.mk h10_
        have NB225_238 := Aside0.mk h11_
        have NB238_225 := Aside0.mk h12_
        have NB226_238 := Aside0.mk h13_
        have NB238_226 := Aside0.mk h14_
        replace BK223 := Aside0.mk h0_
        replace BK224 := Aside0.mk h1_
        replace BK225 := Aside0.mk h2_
        replace BK226 := Aside0.mk h3_
        replace HB := Aside0.mk h15_
        clear h0_ h1_ h2_ h3_ h4_ h5_ h6_ h7_ h8_ h9_ h10_ h11_ h12_ h13_ h14_ h15_
        have hHeld : w27.cell? ⟨gb223, 0, none⟩ = some (.int .i64 a0_0) ∧ w27.cell? ⟨gb223, 1, none⟩ = some (.int .i64 a0_1) ∧ w27.cell? ⟨gb224, 0, none⟩ = some (.int .i64 a1_0) ∧ w27.cell? ⟨gb224, 1, none⟩ = some (.int .i64 a1_1) ∧ w27.cell? ⟨gb225, 0, none⟩ = some (.int .i64 a2_0) ∧ w27.cell? ⟨gb225, 1, none⟩ = some (.int .i64 a2_1) ∧ w27.cell? ⟨gb226, 0, none⟩ = some (.int .i64 a3_0) ∧ w27.cell? ⟨gb226, 1, none⟩ = some (.int .i64 a3_1) := hS_
        refine norm_ (a' := ?_) ?_ ?_
        rotate_left
        ·
         simp only [putAll, Act.put, List.setIfInBounds_toArray, List.set_cons_zero, List.set_cons_succ]
         rfl
        refine one_ (i := 7) (N := some 21) #[Y, Y, Y, Y, Y, Y, Y, Y, Z, Z, Z, Z, Y, Z, Z] rfl rfl (one_of HT_.out (by kernel_rfl)) (by decide) (fun K hK => ?_)
        refine goes_ Try.func5 (by kernel_rfl) rfl #[.agg #[.int .i64 a3_0, .int .i64 a3_1]] (by rfl) rfl rfl hA ?_
        with_reducible refine (laws_toEnd.calls a3_0 a3_1 t233 t234 _ A8.out).mono ?_
        rintro e w28 ⟨rfl, hb⟩
        refine ⟨_, rfl, ?_⟩
        replace BK223 := kB BK223 hb
        replace BK224 := kB BK224 hb
        replace BK225 := kB BK225 hb
        replace BK226 := kB BK226 hb
        replace BK238 := kB BK238 hb
        replace HB := lB hb
        (try clear hb)
        (try clear hb2)
        (try clear hk)
        (try clear hi)
        refine hK.out _ _ ⟨cA BK223 0, cA BK223 1, cA BK224 0, cA BK224 1, cA BK225 0, cA BK225 1, cA BK226 0, cA BK226 1⟩ (fun hHeld => ?_)
        clear hK K
        refine norm_ (a' := ?_) ?_ ?_
        rotate_left
        ·
         show Act.put _ (some 21) _ = _
         simp only [pA]
         rfl
        exact norm_ (by first | (simp only [putAll, Act.put, List.setIfInBounds_toArray, List.set_cons_zero, List.set_cons_succ]; done) | (simp only [putAll, Act.put, List.setIfInBounds_toArray, List.set_cons_zero, List.set_cons_succ]; rfl)) (hJ1_3_5_7_12 (gb238) _ ⟨hHeld, (bkA BK223), (bkA BK224), (bkA BK225), (bkA BK226), (bkA BK238), GW238.out, GE238.out, NB223_238.out, NB238_223.out, NB224_238.out, NB238_224.out, NB225_238.out, NB238_225.out, NB226_238.out, NB238_226.out, blA⟩)
      ·
       skip
       rintro _ w27 ⟨hS_, h0_, h1_, h2_, h3_, h4_⟩
       replace BK223 := Aside0.mk h0_
       replace BK224 := Aside0.mk h1_
       replace BK225 := Aside0.mk h2_
       replace BK226 := Aside0.mk h3_
       replace HB := Aside0.mk h4_
       clear h0_ h1_ h2_ h3_ h4_
       have hHeld : w27.cell? ⟨gb223, 0, none⟩ = some (.int .i64 a0_0) ∧ w27.cell? ⟨gb223, 1, none⟩ = some (.int .i64 a0_1) ∧ w27.cell? ⟨gb224, 0, none⟩ = some (.int .i64 a1_0) ∧ w27.cell? ⟨gb224, 1, none⟩ = some (.int .i64 a1_1) ∧ w27.cell? ⟨gb225, 0, none⟩ = some (.int .i64 a2_0) ∧ w27.cell? ⟨gb225, 1, none⟩ = some (.int .i64 a2_1) ∧ w27.cell? ⟨gb226, 0, none⟩ = some (.int .i64 a3_0) ∧ w27.cell? ⟨gb226, 1, none⟩ = some (.int .i64 a3_1) := hS_
       refine norm_ (a' := ?_) ?_ ?_
       rotate_left
       ·
        simp only [putAll, Act.put, List.setIfInBounds_toArray, List.set_cons_zero, List.set_cons_succ]
        rfl
       refine two_ (i := 8) (j := 12) (Ni := some 22) (Nj := some 9) #[Y, Y, Y, Y, Y, Y, Y, Y, Y, Z, Z, Z, Z, Z, Z] #[Y, Y, Y, Y, Y, Y, Y, Y, Z, Z, Z, Z, Y, Z, Z] rfl rfl rfl rfl (two_of HT_.out (by kernel_rfl)) (by decide) (by decide) (fun K hK => ?_) (fun K hK => ?_)
       ·
        skip
        refine goes_ Try.func4 (by kernel_rfl) rfl #[.agg #[.int .i64 t227, .int .i64 t228], .agg #[.int .i64 t229, .int .i64 t230], .agg #[.int .i64 t231, .int .i64 t232], .agg #[.int .i64 t233, .int .i64 t234]] (by rfl) rfl rfl hA ?_
        with_reducible refine (spec_CrossRatio.calls k t227 t228 t229 t230 t231 t232 t233 t234 t235 t236 t237 _ A9.out).mono ?_
        rintro e w28 ⟨rfl, hb⟩
        refine ⟨_, rfl, ?_⟩
        replace BK223 := kB BK223 hb
        replace BK224 := kB BK224 hb
        replace BK225 := kB BK225 hb
        replace BK226 := kB BK226 hb
        replace HB := lB hb
        (try clear hb)
        (try clear hb2)
        (try clear hk)
        (try clear hi)
        refine hK.out _ _ ⟨cA BK223 0, cA BK223 1, cA BK224 0, cA BK224 1, cA BK225 0, cA BK225 1, cA BK226 0, cA BK226 1⟩ (fun hHeld => ?_)
        clear hK K
        refine norm_ (a' := ?_) ?_ ?_
        rotate_left
        ·
         show Act.put _ (some 22) _ = _
         simp only [pA]
         rfl
        refine puA (i := 9) (N := some 13) #[Y, Y, Y, Y, Y, Y, Y, Y, Y, Y, Z, Z, Z, Z, Z] rfl rfl HT_ ?_
        refine puA (i := 10) (N := some 23) #[Y, Y, Y, Y, Y, Y, Y, Y, Y, Y, Y, Z, Z, Z, Z] rfl rfl HT_ ?_
        refine puA (i := 11) (N := some 24) #[Y, Y, Y, Y, Y, Y, Y, Y, Y, Y, Y, Y, Z, Z, Z] rfl rfl HT_ ?_
        exact norm_ (by first | (simp only [putAll, Act.put, List.setIfInBounds_toArray, List.set_cons_zero, List.set_cons_succ]; done) | (simp only [putAll, Act.put, List.setIfInBounds_toArray, List.set_cons_zero, List.set_cons_succ]; rfl)) (hJ1_3_5_7_8 () _ ⟨hHeld, (bkA BK223), (bkA BK224), (bkA BK225), (bkA BK226), blA⟩)
       ·
        skip
        refine box_step ?hg (N := 9) ?hd (cs := #[.int .i64 0, .int .i64 0]) (t := 24) ?hr ?_; (case hd => rfl); (case hg => rfl); (case hr => first | (go_simp; done) | (go_simp; rfl))
        intro gb238 hg w28 hbox hb
        have BK238 := Aside0.mk (hbox)
        have GW238 := sA hg
        have GE238 := sA hg
        have NB223_238 := nA hg BK223
        have NB238_223 := nB hg BK223
        have NB224_238 := nA hg BK224
        have NB238_224 := nB hg BK224
        have NB225_238 := nA hg BK225
        have NB238_225 := nB hg BK225
        have NB226_238 := nA hg BK226
        have NB238_226 := nB hg BK226
        replace BK223 := kB BK223 hb
        replace BK224 := kB BK224 hb
        replace BK225 := kB BK225 hb
        replace BK226 := kB BK226 hb
        replace HB := lB hb
        clear hb hbox hg
        refine hK.out _ _ ⟨cA BK223 0, cA BK223 1, cA BK224 0, cA BK224 1, cA BK225 0, cA BK225 1, cA BK226 0, cA BK226 1⟩ (fun hHeld => ?_)
        clear hK K
        refine norm_ (a' := ?_) ?_ ?_
        rotate_left
        ·
         show Act.put _ (some 9) _ = _
         simp only [pA]
         rfl
        exact norm_ (by first | (simp only [putAll, Act.put, List.setIfInBounds_toArray, List.set_cons_zero, List.set_cons_succ]; done) | (simp only [putAll, Act.put, List.setIfInBounds_toArray, List.set_cons_zero, List.set_cons_succ]; rfl)) (hJ1_3_5_7_12 (gb238) _ ⟨hHeld, (bkA BK223), (bkA BK224), (bkA BK225), (bkA BK226), (bkA BK238), GW238.out, GE238.out, NB223_238.out, NB238_223.out, NB224_238.out, NB238_224.out, NB225_238.out, NB238_225.out, NB226_238.out, NB238_226.out, blA⟩)
     ·
      skip
      rintro gb238 w28 ⟨hS_, h0_, h1_, h2_, h3_, h4_, h5_, h6_, h7_, h8_, h9_, h10_, h11_, h12_, h13_, h14_, h15_⟩
      have BK238 := Aside0.mk h4_
      have GW238 := Aside0.mk h5_
      have GE238 := Aside0.mk h6_
      have NB223_238 := Aside0.mk h7_
      have NB238_223 := Aside0.mk h8_
      have NB224_238 := Aside0.mk h9_
      have NB238_224 := Aside0.mk h10_
      have NB225_238 := Aside0.mk h11_
      have NB238_225 := Aside0.mk h12_
      have NB226_238 := Aside0.mk h13_
      have NB238_226 := Aside0.mk h14_
      replace BK223 := Aside0.mk h0_
      replace BK224 := Aside0.mk h1_
      replace BK225 := Aside0.mk h2_
      replace BK226 := Aside0.mk h3_
      replace HB := Aside0.mk h15_
      clear h0_ h1_ h2_ h3_ h4_ h5_ h6_ h7_ h8_ h9_ h10_ h11_ h12_ h13_ h14_ h15_
      have hHeld : w28.cell? ⟨gb223, 0, none⟩ = some (.int .i64 a0_0) ∧ w28.cell? ⟨gb223, 1, none⟩ = some (.int .i64 a0_1) ∧ w28.cell? ⟨gb224, 0, none⟩ = some (.int .i64 a1_0) ∧ w28.cell? ⟨gb224, 1, none⟩ = some (.int .i64 a1_1) ∧ w28.cell? ⟨gb225, 0, none⟩ = some (.int .i64 a2_0) ∧ w28.cell? ⟨gb225, 1, none⟩ = some (.int .i64 a2_1) ∧ w28.cell? ⟨gb226, 0, none⟩ = some (.int .i64 a3_0) ∧ w28.cell? ⟨gb226, 1, none⟩ = some (.int .i64 a3_1) := hS_
      refine norm_ (a' := ?_) ?_ ?_
      rotate_left
      ·
       simp only [putAll, Act.put, List.setIfInBounds_toArray, List.set_cons_zero, List.set_cons_succ]
       rfl
      refine one_ (i := 8) (N := some 22) #[Y, Y, Y, Y, Y, Y, Y, Y, Y, Z, Z, Z, Y, Z, Z] rfl rfl (one_of HT_.out (by kernel_rfl)) (by decide) (fun K hK => ?_)
      refine goes_ Try.func4 (by kernel_rfl) rfl #[.agg #[.int .i64 t227, .int .i64 t228], .agg #[.int .i64 t229, .int .i64 t230], .agg #[.int .i64 t231, .int .i64 t232], .agg #[.int .i64 t233, .int .i64 t234]] (by rfl) rfl rfl hA ?_
      with_reducible refine (spec_CrossRatio.calls k t227 t228 t229 t230 t231 t232 t233 t234 t235 t236 t237 _ A9.out).mono ?_
      rintro e w29 ⟨rfl, hb⟩
      refine ⟨_, rfl, ?_⟩
      replace BK223 := kB BK223 hb
      replace BK224 := kB BK224 hb
      replace BK225 := kB BK225 hb
      replace BK226 := kB BK226 hb
      replace BK238 := kB BK238 hb
      replace HB := lB hb
      (try clear hb)
      (try clear hb2)
      (try clear hk)
      (try clear hi)
      refine hK.out _ _ ⟨cA BK223 0, cA BK223 1, cA BK224 0, cA BK224 1, cA BK225 0, cA BK225 1, cA BK226 0, cA BK226 1⟩ (fun hHeld => ?_)
      clear hK K
      refine norm_ (a' := ?_) ?_ ?_
      rotate_left
      ·
       show Act.put _ (some 22) _ = _
       simp only [pA]
       rfl
      refine puA (i := 9) (N := some 13) #[Y, Y, Y, Y, Y, Y, Y, Y, Y, Y, Z, Z, Y, Z, Z] rfl rfl HT_ ?_
      refine puA (i := 10) (N := some 23) #[Y, Y, Y, Y, Y, Y, Y, Y, Y, Y, Y, Z, Y, Z, Z] rfl rfl HT_ ?_
      refine puA (i := 11) (N := some 24) #[Y, Y, Y, Y, Y, Y, Y, Y, Y, Y, Y, Y, Y, Z, Z] rfl rfl HT_ ?_
      exact norm_ (by first | (simp only [putAll, Act.put, List.setIfInBounds_toArray, List.set_cons_zero, List.set_cons_succ]; done) | (simp only [putAll, Act.put, List.setIfInBounds_toArray, List.set_cons_zero, List.set_cons_succ]; rfl)) (hJ1_3_5_7_8_12 (gb238) _ ⟨hHeld, (bkA BK223), (bkA BK224), (bkA BK225), (bkA BK226), (bkA BK238), GW238.out, GE238.out, NB223_238.out, NB238_223.out, NB224_238.out, NB238_224.out, NB225_238.out, NB238_225.out, NB226_238.out, NB238_226.out, blA⟩)
    ·
     skip
     rintro _ w28 ⟨hS_, h0_, h1_, h2_, h3_, h4_⟩
     replace BK223 := Aside0.mk h0_
     replace BK224 := Aside0.mk h1_
     replace BK225 := Aside0.mk h2_
     replace BK226 := Aside0.mk h3_
     replace HB := Aside0.mk h4_
     clear h0_ h1_ h2_ h3_ h4_
     have hHeld : w28.cell? ⟨gb223, 0, none⟩ = some (.int .i64 a0_0) ∧ w28.cell? ⟨gb223, 1, none⟩ = some (.int .i64 a0_1) ∧ w28.cell? ⟨gb224, 0, none⟩ = some (.int .i64 a1_0) ∧ w28.cell? ⟨gb224, 1, none⟩ = some (.int .i64 a1_1) ∧ w28.cell? ⟨gb225, 0, none⟩ = some (.int .i64 a2_0) ∧ w28.cell? ⟨gb225, 1, none⟩ = some (.int .i64 a2_1) ∧ w28.cell? ⟨gb226, 0, none⟩ = some (.int .i64 a3_0) ∧ w28.cell? ⟨gb226, 1, none⟩ = some (.int .i64 a3_1) := hS_
     refine norm_ (a' := ?_) ?_ ?_
     rotate_left
     ·
      simp only [putAll, Act.put, List.setIfInBounds_toArray, List.set_cons_zero, List.set_cons_succ]
      rfl
     refine one_ (i := 12) (N := some 9) #[Y, Y, Y, Y, Y, Y, Y, Y, Y, Y, Y, Y, Y, Z, Z] rfl rfl (one_of HT_.out (by kernel_rfl)) (by decide) (fun K hK => ?_)
     refine box_step ?hg (N := 9) ?hd (cs := #[.int .i64 0, .int .i64 0]) (t := 24) ?hr ?_; (case hd => rfl); (case hg => rfl); (case hr => first | (go_simp; done) | (go_simp; rfl))
     intro gb238 hg w29 hbox hb
     have BK238 := Aside0.mk (hbox)
     have GW238 := sA hg
     have GE238 := sA hg
     have NB223_238 := nA hg BK223
     have NB238_223 := nB hg BK223
     have NB224_238 := nA hg BK224
     have NB238_224 := nB hg BK224
     have NB225_238 := nA hg BK225
     have NB238_225 := nB hg BK225
     have NB226_238 := nA hg BK226
     have NB238_226 := nB hg BK226
     replace BK223 := kB BK223 hb
     replace BK224 := kB BK224 hb
     replace BK225 := kB BK225 hb
     replace BK226 := kB BK226 hb
     replace HB := lB hb
     clear hb hbox hg
     refine hK.out _ _ ⟨cA BK223 0, cA BK223 1, cA BK224 0, cA BK224 1, cA BK225 0, cA BK225 1, cA BK226 0, cA BK226 1⟩ (fun hHeld => ?_)
     clear hK K
     refine norm_ (a' := ?_) ?_ ?_
     rotate_left
     ·
      show Act.put _ (some 9) _ = _
      simp only [pA]
      rfl
     exact norm_ (by first | (simp only [putAll, Act.put, List.setIfInBounds_toArray, List.set_cons_zero, List.set_cons_succ]; done) | (simp only [putAll, Act.put, List.setIfInBounds_toArray, List.set_cons_zero, List.set_cons_succ]; rfl)) (hJ1_3_5_7_8_12 (gb238) _ ⟨hHeld, (bkA BK223), (bkA BK224), (bkA BK225), (bkA BK226), (bkA BK238), GW238.out, GE238.out, NB223_238.out, NB238_223.out, NB224_238.out, NB238_224.out, NB225_238.out, NB238_225.out, NB226_238.out, NB238_226.out, blA⟩)
   rintro gb238 w29 ⟨hS_, h0_, h1_, h2_, h3_, h4_, h5_, h6_, h7_, h8_, h9_, h10_, h11_, h12_, h13_, h14_, h15_⟩
   have BK238 := Aside0.mk h4_
   have GW238 := Aside0.mk h5_
   have GE238 := Aside0.mk h6_
   have NB223_238 := Aside0.mk h7_
   have NB238_223 := Aside0.mk h8_
   have NB224_238 := Aside0.mk h9_
   have NB238_224 := Aside0.mk h10_
   have NB225_238 := Aside0.mk h11_
   have NB238_225 := Aside0.mk h12_
   have NB226_238 := Aside0.mk h13_
   have NB238_226 := Aside0.mk h14_
   replace BK223 := Aside0.mk h0_
   replace BK224 := Aside0.mk h1_
   replace BK225 := Aside0.mk h2_
   replace BK226 := Aside0.mk h3_
   replace HB := Aside0.mk h15_
   clear h0_ h1_ h2_ h3_ h4_ h5_ h6_ h7_ h8_ h9_ h10_ h11_ h12_ h13_ h14_ h15_
   have hHeld : w29.cell? ⟨gb223, 0, none⟩ = some (.int .i64 a0_0) ∧ w29.cell? ⟨gb223, 1, none⟩ = some (.int .i64 a0_1) ∧ w29.cell? ⟨gb224, 0, none⟩ = some (.int .i64 a1_0) ∧ w29.cell? ⟨gb224, 1, none⟩ = some (.int .i64 a1_1) ∧ w29.cell? ⟨gb225, 0, none⟩ = some (.int .i64 a2_0) ∧ w29.cell? ⟨gb225, 1, none⟩ = some (.int .i64 a2_1) ∧ w29.cell? ⟨gb226, 0, none⟩ = some (.int .i64 a3_0) ∧ w29.cell? ⟨gb226, 1, none⟩ = some (.int .i64 a3_1) := hS_
   refine norm_ (a' := ?_) ?_ ?_
   rotate_left
   ·
    simp only [putAll, Act.put, List.setIfInBounds_toArray, List.set_cons_zero, List.set_cons_succ]
    rfl
   refine one_ (i := 13) (N := none) #[Y, Y, Y, Y, Y, Y, Y, Y, Y, Y, Y, Y, Y, Y, Z] rfl rfl (one_of HT_.out (by kernel_rfl)) (by decide) (fun K hK => ?_)
   have hs30 : w29.cell? ⟨gb238, 0, none⟩ = some (.int .i64 0) := cA BK238 0
   have hfs30 := blk_frozen BK238.out 0
   have hns30_0 := NB223_238.out
   have hns30_1 := NB224_238.out
   have hns30_2 := NB225_238.out
   have hns30_3 := NB226_238.out
   have hms30_0 := NB238_223.out
   have hms30_1 := NB238_224.out
   have hms30_2 := NB238_225.out
   have hms30_3 := NB238_226.out
   have hs31 : w29.cell? ⟨gb238, 1, none⟩ = some (.int .i64 0) := cA BK238 1
   have hfs31 := blk_frozen BK238.out 1
   have hns31_0 := NB223_238.out
   have hns31_1 := NB224_238.out
   have hns31_2 := NB225_238.out
   have hns31_3 := NB226_238.out
   have hms31_0 := NB238_223.out
   have hms31_1 := NB238_224.out
   have hms31_2 := NB238_225.out
   have hms31_3 := NB238_226.out
   refine skip_ (w1 := ?_) (by rfl) rfl ?_ ?_
   rotate_left
   ·
    go_simp
    rfl
   refine hK.out _ _ ⟨((cell_far (p := ⟨gb238, _, none⟩) NB223_238.out _).trans (((cell_far (p := ⟨gb238, _, none⟩) NB223_238.out _).trans (hHeld.1)))), ((cell_far (p := ⟨gb238, _, none⟩) NB223_238.out _).trans (((cell_far (p := ⟨gb238, _, none⟩) NB223_238.out _).trans (hHeld.2.1)))), ((cell_far (p := ⟨gb238, _, none⟩) NB224_238.out _).trans (((cell_far (p := ⟨gb238, _, none⟩) NB224_238.out _).trans (hHeld.2.2.1)))), ((cell_far (p := ⟨gb238, _, none⟩) NB224_238.out _).trans (((cell_far (p := ⟨gb238, _, none⟩) NB224_238.out _).trans (hHeld.2.2.2.1)))), ((cell_far (p := ⟨gb238, _, none⟩) NB225_238.out _).trans (((cell_far (p := ⟨gb238, _, none⟩) NB225_238.out _).trans (hHeld.2.2.2.2.1)))), ((cell_far (p := ⟨gb238, _, none⟩) NB225_238.out _).trans (((cell_far (p := ⟨gb238, _, none⟩) NB225_238.out _).trans (hHeld.2.2.2.2.2.1)))), ((cell_far (p := ⟨gb238, _, none⟩) NB226_238.out _).trans (((cell_far (p := ⟨gb238, _, none⟩) NB226_238.out _).trans (hHeld.2.2.2.2.2.2.1)))), ((cell_far (p := ⟨gb238, _, none⟩) NB226_238.out _).trans (((cell_far (p := ⟨gb238, _, none⟩) NB226_238.out _).trans (hHeld.2.2.2.2.2.2.2))))⟩ (fun hHeld => ?_)
   clear hK K
   refine puA (i := 14) (N := some 10) #[Y, Y, Y, Y, Y, Y, Y, Y, Y, Y, Y, Y, Y, Y, Y] rfl rfl HT_ ?_
   refine done_ (done_of HT_.out (by kernel_rfl)) ?_
   try go_wp2
   have n0_ : Aside0 (((w29.setCell ⟨gb238, 0, none⟩ (.int .i64 t235)).setCell ⟨gb238, 1, none⟩ (.int .i64 t236)).heap[gb223]? = some (.cells #[.int .i64 a0_0, .int .i64 a0_1] 23 (0, 0))) := ⟨bkF BK223⟩
   have n1_ : Aside0 (((w29.setCell ⟨gb238, 0, none⟩ (.int .i64 t235)).setCell ⟨gb238, 1, none⟩ (.int .i64 t236)).heap[gb224]? = some (.cells #[.int .i64 a1_0, .int .i64 a1_1] 23 (0, 0))) := ⟨bkF BK224⟩
   have n2_ : Aside0 (((w29.setCell ⟨gb238, 0, none⟩ (.int .i64 t235)).setCell ⟨gb238, 1, none⟩ (.int .i64 t236)).heap[gb225]? = some (.cells #[.int .i64 a2_0, .int .i64 a2_1] 23 (0, 0))) := ⟨bkF BK225⟩
   have n3_ : Aside0 (((w29.setCell ⟨gb238, 0, none⟩ (.int .i64 t235)).setCell ⟨gb238, 1, none⟩ (.int .i64 t236)).heap[gb226]? = some (.cells #[.int .i64 a3_0, .int .i64 a3_1] 23 (0, 0))) := ⟨bkF BK226⟩
   have n4_ : Aside0 (((w29.setCell ⟨gb238, 0, none⟩ (.int .i64 t235)).setCell ⟨gb238, 1, none⟩ (.int .i64 t236)).heap[gb238]? = some (.cells #[.int .i64 t235, .int .i64 t236] 24 (0, 0))) := ⟨by refine dr ?_; refine blk_put (cs := #[.int .i64 t235, .int .i64 0]) ?_ 1 _ rfl; refine dr ?_; refine blk_put (cs := #[.int .i64 0, .int .i64 0]) ?_ 0 _ rfl; exact bkA BK238⟩
   have n5_ : Aside0 (Below w.heap.size w ((w29.setCell ⟨gb238, 0, none⟩ (.int .i64 t235)).setCell ⟨gb238, 1, none⟩ (.int .i64 t236))) := ⟨blA⟩
   (try clear BK223)
   (try clear BK224)
   (try clear BK225)
   (try clear BK226)
   (try clear BK238)
   (try clear HB)
   generalize ((w29.setCell ⟨gb238, 0, none⟩ (.int .i64 t235)).setCell ⟨gb238, 1, none⟩ (.int .i64 t236)) = w32 at n0_ n1_ n2_ n3_ n4_ n5_ ⊢
   have BK223 := n0_
   have BK224 := n1_
   have BK225 := n2_
   have BK226 := n3_
   have BK238 := n4_
   have HB := n5_
   clear n0_ n1_ n2_ n3_ n4_ n5_
   have n0_ := Aside0.mk (blk_drew BK223.out)
   have n1_ := Aside0.mk (blk_drew BK224.out)
   have n2_ := Aside0.mk (blk_drew BK225.out)
   have n3_ := Aside0.mk (blk_drew BK226.out)
   have n4_ := Aside0.mk (blk_drew BK238.out)
   have n5_ := Aside0.mk (below_drew1 HB.out)
   clear BK223
   clear BK224
   clear BK225
   clear BK226
   clear BK238
   clear HB
   have BK223 := n0_
   have BK224 := n1_
   have BK225 := n2_
   have BK226 := n3_
   have BK238 := n4_
   have HB := n5_
   clear n0_ n1_ n2_ n3_ n4_ n5_
   refine start_ (n := 15) (S := fun w' => w'.cell? ⟨gb223, 0, none⟩ = some (.int .i64 a0_0) ∧ w'.cell? ⟨gb223, 1, none⟩ = some (.int .i64 a0_1) ∧ w'.cell? ⟨gb224, 0, none⟩ = some (.int .i64 a1_0) ∧ w'.cell? ⟨gb224, 1, none⟩ = some (.int .i64 a1_1) ∧ w'.cell? ⟨gb225, 0, none⟩ = some (.int .i64 a2_0) ∧ w'.cell? ⟨gb225, 1, none⟩ = some (.int .i64 a2_1) ∧ w'.cell? ⟨gb226, 0, none⟩ = some (.int .i64 a3_0) ∧ w'.cell? ⟨gb226, 1, none⟩ = some (.int .i64 a3_1)) (ds := []) #[Z, Z, Z, Z, Z, Z, Z, Z, Z, Z, Z, Z, Z, Z, Z] (by kernel_rfl) rfl rfl ⟨cA BK223 0, cA BK223 1, cA BK224 0, cA BK224 1, cA BK225 0, cA BK225 1, cA BK226 0, cA BK226 1⟩ (fun hHeld => ?_); refine with_tabW laws_FnExactCrossRatio.tab2 laws_FnExactCrossRatio.bits2 (fun HT_ HW_ => ?_)
   generalize w32.drew = w33 at BK223 BK224 BK225 BK226 BK238 HB hHeld ⊢
   refine take_ (i := 0) (N := some 26) (v := ?_) (a' := ?_) #[Y, Z, Z, Z, Z, Z, Z, Z, Z, Z, Z, Z, Z, Z, Z] rfl rfl (take_ofW HT_.out HW_.out (by kernel_rfl)) (fun _ _ _ h => h) (Or.inl ⟨by rfl, ?_⟩) hHeld ?_ ?_
   rotate_left
   ·
    rintro w' ⟨s0, s1, s2, s3, s4, s5, s6, s7⟩
    go_simp
    with_reducible rfl
   rotate_left
   ·
    simp only [pA]
    rfl
   refine take_ (i := 2) (N := some 28) (v := ?_) (a' := ?_) #[Y, Z, Y, Z, Z, Z, Z, Z, Z, Z, Z, Z, Z, Z, Z] rfl rfl (take_ofW HT_.out HW_.out (by kernel_rfl)) (fun _ _ _ h => h) (Or.inl ⟨by rfl, ?_⟩) hHeld ?_ ?_
   rotate_left
   ·
    rintro w' ⟨s0, s1, s2, s3, s4, s5, s6, s7⟩
    go_simp
    with_reducible rfl
   rotate_left
   ·
    simp only [pA]
    rfl
   refine take_ (i := 4) (N := some 30) (v := ?_) (a' := ?_) #[Y, Z, Y, Z, Y, Z, Z, Z, Z, Z, Z, Z, Z, Z, Z] rfl rfl (take_ofW HT_.out HW_.out (by kernel_rfl)) (fun _ _ _ h => h) (Or.inl ⟨by rfl, ?_⟩) hHeld ?_ ?_
   rotate_left
   ·
    rintro w' ⟨s0, s1, s2, s3, s4, s5, s6, s7⟩
    go_simp
    with_reducible rfl
   rotate_left
   ·
    simp only [pA]
    rfl
   refine take_ (i := 6) (N := some 32) (v := ?_) (a' := ?_) #[Y, Z, Y, Z, Y, Z, Y, Z, Z, Z, Z, Z, Z, Z, Z] rfl rfl (take_ofW HT_.out HW_.out (by kernel_rfl)) (fun _ _ _ h => h) (Or.inl ⟨by rfl, ?_⟩) hHeld ?_ ?_
   rotate_left
   ·
    rintro w' ⟨s0, s1, s2, s3, s4, s5, s6, s7⟩
    go_simp
    with_reducible rfl
   rotate_left
   ·
    simp only [pA]
    rfl
   refine join_ (σ := Nat) 2 #[Y, Y, Y, Y, Y, Y, Y, Y, Y, Y, Y, Y, Y, Z, Z] (fun s_ => [(27, .agg #[.int .i64 t239, .int .i64 t240]), (29, .agg #[.int .i64 t241, .int .i64 t242]), (31, .agg #[.int .i64 t243, .int .i64 t244]), (33, .agg #[.int .i64 t245, .int .i64 t246]), (34, .tuple #[.agg #[.int .i64 t247, .int .i64 t248], .int .i64 t249]), (11, .pointer (some ⟨s_, 0, none⟩)), (25, .tuple #[.agg #[.int .i64 t247, .int .i64 t248], .int .i64 t249]), (35, .agg #[.int .i64 t247, .int .i64 t248]), (36, .int .i64 t249)]) (fun s_ w' => (w'.cell? ⟨gb223, 0, none⟩ = some (.int .i64 a0_0) ∧ w'.cell? ⟨gb223, 1, none⟩ = some (.int .i64 a0_1) ∧ w'.cell? ⟨gb224, 0, none⟩ = some (.int .i64 a1_0) ∧ w'.cell? ⟨gb224, 1, none⟩ = some (.int .i64 a1_1) ∧ w'.cell? ⟨gb225, 0, none⟩ = some (.int .i64 a2_0) ∧ w'.cell? ⟨gb225, 1, none⟩ = some (.int .i64 a2_1) ∧ w'.cell? ⟨gb226, 0, none⟩ = some (.int .i64 a3_0) ∧ w'.cell? ⟨gb226, 1, none⟩ = some (.int .i64 a3_1)) ∧ (w'.heap[gb223]? = some (.cells #[.int .i64 a0_0, .int .i64 a0_1] 23 (0, 0))) ∧ (w'.heap[gb224]? = some (.cells #[.int .i64 a1_0, .int .i64 a1_1] 23 (0, 0))) ∧ (w'.heap[gb225]? = some (.cells #[.int .i64 a2_0, .int .i64 a2_1] 23 (0, 0))) ∧ (w'.heap[gb226]? = some (.cells #[.int .i64 a3_0, .int .i64 a3_1] 23 (0, 0))) ∧ (w'.heap[gb238]? = some (.cells #[.int .i64 t235, .int .i64 t236] 24 (0, 0))) ∧ (w'.heap[s_]? = some (.cells #[.int .i64 0, .int .i64 0] 24 (0, 0))) ∧ (w.heap.size ≤ s_) ∧ (w.heap.size ≤ s_) ∧ (gb223 ≠ s_) ∧ (s_ ≠ gb223) ∧ (gb224 ≠ s_) ∧ (s_ ≠ gb224) ∧ (gb225 ≠ s_) ∧ (s_ ≠ gb225) ∧ (gb226 ≠ s_) ∧ (s_ ≠ gb226) ∧ (gb238 ≠ s_) ∧ (s_ ≠ gb238) ∧ (Below w.heap.size w w')) ?_ ?_
   rotate_left
   ·
    intro hJ1_3_5_7_8_12
    refine join_ (σ := Unit) 3 #[Y, Y, Y, Y, Y, Y, Y, Y, Y, Y, Y, Y, Z, Z, Z] (fun s_ => [(27, .agg #[.int .i64 t239, .int .i64 t240]), (29, .agg #[.int .i64 t241, .int .i64 t242]), (31, .agg #[.int .i64 t243, .int .i64 t244]), (33, .agg #[.int .i64 t245, .int .i64 t246]), (34, .tuple #[.agg #[.int .i64 t247, .int .i64 t248], .int .i64 t249]), (25, .tuple #[.agg #[.int .i64 t247, .int .i64 t248], .int .i64 t249]), (35, .agg #[.int .i64 t247, .int .i64 t248]), (36, .int .i64 t249)]) (fun s_ w' => (w'.cell? ⟨gb223, 0, none⟩ = some (.int .i64 a0_0) ∧ w'.cell? ⟨gb223, 1, none⟩ = some (.int .i64 a0_1) ∧ w'.cell? ⟨gb224, 0, none⟩ = some (.int .i64 a1_0) ∧ w'.cell? ⟨gb224, 1, none⟩ = some (.int .i64 a1_1) ∧ w'.cell? ⟨gb225, 0, none⟩ = some (.int .i64 a2_0) ∧ w'.cell? ⟨gb225, 1, none⟩ = some (.int .i64 a2_1) ∧ w'.cell? ⟨gb226, 0, none⟩ = some (.int .i64 a3_0) ∧ w'.cell? ⟨gb226, 1, none⟩ = some (.int .i64 a3_1)) ∧ (w'.heap[gb223]? = some (.cells #[.int .i64 a0_0, .int .i64 a0_1] 23 (0, 0))) ∧ (w'.heap[gb224]? = some (.cells #[.int .i64 a1_0, .int .i64 a1_1] 23 (0, 0))) ∧ (w'.heap[gb225]? = some (.cells #[.int .i64 a2_0, .int .i64 a2_1] 23 (0, 0))) ∧ (w'.heap[gb226]? = some (.cells #[.int .i64 a3_0, .int .i64 a3_1] 23 (0, 0))) ∧ (w'.heap[gb238]? = some (.cells #[.int .i64 t235, .int .i64 t236] 24 (0, 0))) ∧ (Below w.heap.size w w')) ?_ ?_
    rotate_left
    ·
     intro hJ1_3_5_7_8
     refine join_ (σ := Nat) 6 #[Y, Y, Y, Y, Y, Y, Y, Y, Z, Z, Z, Z, Y, Z, Z] (fun s_ => [(27, .agg #[.int .i64 t239, .int .i64 t240]), (29, .agg #[.int .i64 t241, .int .i64 t242]), (31, .agg #[.int .i64 t243, .int .i64 t244]), (33, .agg #[.int .i64 t245, .int .i64 t246]), (11, .pointer (some ⟨s_, 0, none⟩))]) (fun s_ w' => (w'.cell? ⟨gb223, 0, none⟩ = some (.int .i64 a0_0) ∧ w'.cell? ⟨gb223, 1, none⟩ = some (.int .i64 a0_1) ∧ w'.cell? ⟨gb224, 0, none⟩ = some (.int .i64 a1_0) ∧ w'.cell? ⟨gb224, 1, none⟩ = some (.int .i64 a1_1) ∧ w'.cell? ⟨gb225, 0, none⟩ = some (.int .i64 a2_0) ∧ w'.cell? ⟨gb225, 1, none⟩ = some (.int .i64 a2_1) ∧ w'.cell? ⟨gb226, 0, none⟩ = some (.int .i64 a3_0) ∧ w'.cell? ⟨gb226, 1, none⟩ = some (.int .i64 a3_1)) ∧ (w'.heap[gb223]? = some (.cells #[.int .i64 a0_0, .int .i64 a0_1] 23 (0, 0))) ∧ (w'.heap[gb224]? = some (.cells #[.int .i64 a1_0, .int .i64 a1_1] 23 (0, 0))) ∧ (w'.heap[gb225]? = some (.cells #[.int .i64 a2_0, .int .i64 a2_1] 23 (0, 0))) ∧ (w'.heap[gb226]? = some (.cells #[.int .i64 a3_0, .int .i64 a3_1] 23 (0, 0))) ∧ (w'.heap[gb238]? = some (.cells #[.int .i64 t235, .int .i64 t236] 24 (0, 0))) ∧ (w'.heap[s_]? = some (.cells #[.int .i64 0, .int .i64 0] 24 (0, 0))) ∧ (w.heap.size ≤ s_) ∧ (w.heap.size ≤ s_) ∧ (gb223 ≠ s_) ∧ (s_ ≠ gb223) ∧ (gb224 ≠ s_) ∧ (s_ ≠ gb224) ∧ (gb225 ≠ s_) ∧ (s_ ≠ gb225) ∧ (gb226 ≠ s_) ∧ (s_ ≠ gb226) ∧ (gb238 ≠ s_) ∧ (s_ ≠ gb238) ∧ (Below w.heap.size w w')) ?_ ?_
     rotate_left
     ·
      intro hJ1_3_5_7_12
      refine join_ (σ := Unit) 7 #[Y, Y, Y, Y, Y, Y, Y, Y, Z, Z, Z, Z, Z, Z, Z] (fun s_ => [(27, .agg #[.int .i64 t239, .int .i64 t240]), (29, .agg #[.int .i64 t241, .int .i64 t242]), (31, .agg #[.int .i64 t243, .int .i64 t244]), (33, .agg #[.int .i64 t245, .int .i64 t246])]) (fun s_ w' => (w'.cell? ⟨gb223, 0, none⟩ = some (.int .i64 a0_0) ∧ w'.cell? ⟨gb223, 1, none⟩ = some (.int .i64 a0_1) ∧ w'.cell? ⟨gb224, 0, none⟩ = some (.int .i64 a1_0) ∧ w'.cell? ⟨gb224, 1, none⟩ = some (.int .i64 a1_1) ∧ w'.cell? ⟨gb225, 0, none⟩ = some (.int .i64 a2_0) ∧ w'.cell? ⟨gb225, 1, none⟩ = some (.int .i64 a2_1) ∧ w'.cell? ⟨gb226, 0, none⟩ = some (.int .i64 a3_0) ∧ w'.cell? ⟨gb226, 1, none⟩ = some (.int .i64 a3_1)) ∧ (w'.heap[gb223]? = some (.cells #[.int .i64 a0_0, .int .i64 a0_1] 23 (0, 0))) ∧ (w'.heap[gb224]? = some (.cells #[.int .i64 a1_0, .int .i64 a1_1] 23 (0, 0))) ∧ (w'.heap[gb225]? = some (.cells #[.int .i64 a2_0, .int .i64 a2_1] 23 (0, 0))) ∧ (w'.heap[gb226]? = some (.cells #[.int .i64 a3_0, .int .i64 a3_1] 23 (0, 0))) ∧ (w'.heap[gb238]? = some (.cells #[.int .i64 t235, .int .i64 t236] 24 (0, 0))) ∧ (Below w.heap.size w w')) ?_ ?_
      rotate_left
      ·
       intro hJ1_3_5_7
       refine join_ (σ := Nat) 7 #[Y, Y, Y, Y, Y, Y, Y, Z, Z, Z, Z, Z, Y, Z, Z] (fun s_ => [(27, .agg #[.int .i64 t239, .int .i64 t240]), (29, .agg #[.int .i64 t241, .int .i64 t242]), (31, .agg #[.int .i64 t243, .int .i64 t244]), (11, .pointer (some ⟨s_, 0, none⟩))]) (fun s_ w' => (w'.cell? ⟨gb223, 0, none⟩ = some (.int .i64 a0_0) ∧ w'.cell? ⟨gb223, 1, none⟩ = some (.int .i64 a0_1) ∧ w'.cell? ⟨gb224, 0, none⟩ = some (.int .i64 a1_0) ∧ w'.cell? ⟨gb224, 1, none⟩ = some (.int .i64 a1_1) ∧ w'.cell? ⟨gb225, 0, none⟩ = some (.int .i64 a2_0) ∧ w'.cell? ⟨gb225, 1, none⟩ = some (.int .i64 a2_1) ∧ w'.cell? ⟨gb226, 0, none⟩ = some (.int .i64 a3_0) ∧ w'.cell? ⟨gb226, 1, none⟩ = some (.int .i64 a3_1)) ∧ (w'.heap[gb223]? = some (.cells #[.int .i64 a0_0, .int .i64 a0_1] 23 (0, 0))) ∧ (w'.heap[gb224]? = some (.cells #[.int .i64 a1_0, .int .i64 a1_1] 23 (0, 0))) ∧ (w'.heap[gb225]? = some (.cells #[.int .i64 a2_0, .int .i64 a2_1] 23 (0, 0))) ∧ (w'.heap[gb226]? = some (.cells #[.int .i64 a3_0, .int .i64 a3_1] 23 (0, 0))) ∧ (w'.heap[gb238]? = some (.cells #[.int .i64 t235, .int .i64 t236] 24 (0, 0))) ∧ (w'.heap[s_]? = some (.cells #[.int .i64 0, .int .i64 0] 24 (0, 0))) ∧ (w.heap.size ≤ s_) ∧ (w.heap.size ≤ s_) ∧ (gb223 ≠ s_) ∧ (s_ ≠ gb223) ∧ (gb224 ≠ s_) ∧ (s_ ≠ gb224) ∧ (gb225 ≠ s_) ∧ (s_ ≠ gb225) ∧ (gb226 ≠ s_) ∧ (s_ ≠ gb226) ∧ (gb238 ≠ s_) ∧ (s_ ≠ gb238) ∧ (Below w.heap.size w w')) ?_ ?_
       rotate_left
       ·
        intro hJ1_3_5_12
        refine join_ (σ := Unit) 8 #[Y, Y, Y, Y, Y, Y, Y, Z, Z, Z, Z, Z, Z, Z, Z] (fun s_ => [(27, .agg #[.int .i64 t239, .int .i64 t240]), (29, .agg #[.int .i64 t241, .int .i64 t242]), (31, .agg #[.int .i64 t243, .int .i64 t244])]) (fun s_ w' => (w'.cell? ⟨gb223, 0, none⟩ = some (.int .i64 a0_0) ∧ w'.cell? ⟨gb223, 1, none⟩ = some (.int .i64 a0_1) ∧ w'.cell? ⟨gb224, 0, none⟩ = some (.int .i64 a1_0) ∧ w'.cell? ⟨gb224, 1, none⟩ = some (.int .i64 a1_1) ∧ w'.cell? ⟨gb225, 0, none⟩ = some (.int .i64 a2_0) ∧ w'.cell? ⟨gb225, 1, none⟩ = some (.int .i64 a2_1) ∧ w'.cell? ⟨gb226, 0, none⟩ = some (.int .i64 a3_0) ∧ w'.cell? ⟨gb226, 1, none⟩ = some (.int .i64 a3_1)) ∧ (w'.heap[gb223]? = some (.cells #[.int .i64 a0_0, .int .i64 a0_1] 23 (0, 0))) ∧ (w'.heap[gb224]? = some (.cells #[.int .i64 a1_0, .int .i64 a1_1] 23 (0, 0))) ∧ (w'.heap[gb225]? = some (.cells #[.int .i64 a2_0, .int .i64 a2_1] 23 (0, 0))) ∧ (w'.heap[gb226]? = some (.cells #[.int .i64 a3_0, .int .i64 a3_1] 23 (0, 0))) ∧ (w'.heap[gb238]? = some (.cells #[.int .i64 t235, .int .i64 t236] 24 (0, 0))) ∧ (Below w.heap.size w w')) ?_ ?_
        rotate_left
        ·
         intro hJ1_3_5
         refine join_ (σ := Nat) 8 #[Y, Y, Y, Y, Y, Z, Y, Z, Z, Z, Z, Z, Y, Z, Z] (fun s_ => [(27, .agg #[.int .i64 t239, .int .i64 t240]), (29, .agg #[.int .i64 t241, .int .i64 t242]), (11, .pointer (some ⟨s_, 0, none⟩))]) (fun s_ w' => (w'.cell? ⟨gb223, 0, none⟩ = some (.int .i64 a0_0) ∧ w'.cell? ⟨gb223, 1, none⟩ = some (.int .i64 a0_1) ∧ w'.cell? ⟨gb224, 0, none⟩ = some (.int .i64 a1_0) ∧ w'.cell? ⟨gb224, 1, none⟩ = some (.int .i64 a1_1) ∧ w'.cell? ⟨gb225, 0, none⟩ = some (.int .i64 a2_0) ∧ w'.cell? ⟨gb225, 1, none⟩ = some (.int .i64 a2_1) ∧ w'.cell? ⟨gb226, 0, none⟩ = some (.int .i64 a3_0) ∧ w'.cell? ⟨gb226, 1, none⟩ = some (.int .i64 a3_1)) ∧ (w'.heap[gb223]? = some (.cells #[.int .i64 a0_0, .int .i64 a0_1] 23 (0, 0))) ∧ (w'.heap[gb224]? = some (.cells #[.int .i64 a1_0, .int .i64 a1_1] 23 (0, 0))) ∧ (w'.heap[gb225]? = some (.cells #[.int .i64 a2_0, .int .i64 a2_1] 23 (0, 0))) ∧ (w'.heap[gb226]? = some (.cells #[.int .i64 a3_0, .int .i64 a3_1] 23 (0, 0))) ∧ (w'.heap[gb238]? = some (.cells #[.int .i64 t235, .int .i64 t236] 24 (0, 0))) ∧ (w'.heap[s_]? = some (.cells #[.int .i64 0, .int .i64 0] 24 (0, 0))) ∧ (w.heap.size ≤ s_) ∧ (w.heap.size ≤ s_) ∧ (gb223 ≠ s_) ∧ (s_ ≠ gb223) ∧ (gb224 ≠ s_) ∧ (s_ ≠ gb224) ∧ (gb225 ≠ s_) ∧ (s_ ≠ gb225) ∧ (gb226 ≠ s_) ∧ (s_ ≠ gb226) ∧ (gb238 ≠ s_) ∧ (s_ ≠ gb238) ∧ (Below w.heap.size w w')) ?_ ?_
         rotate_left
         ·
          intro hJ1_3_12
          refine join_ (σ := Unit) 9 #[Y, Y, Y, Y, Y, Z, Y, Z, Z, Z, Z, Z, Z, Z, Z] (fun s_ => [(27, .agg #[.int .i64 t239, .int .i64 t240]), (29, .agg #[.int .i64 t241, .int .i64 t242])]) (fun s_ w' => (w'.cell? ⟨gb223, 0, none⟩ = some (.int .i64 a0_0) ∧ w'.cell? ⟨gb223, 1, none⟩ = some (.int .i64 a0_1) ∧ w'.cell? ⟨gb224, 0, none⟩ = some (.int .i64 a1_0) ∧ w'.cell? ⟨gb224, 1, none⟩ = some (.int .i64 a1_1) ∧ w'.cell? ⟨gb225, 0, none⟩ = some (.int .i64 a2_0) ∧ w'.cell? ⟨gb225, 1, none⟩ = some (.int .i64 a2_1) ∧ w'.cell? ⟨gb226, 0, none⟩ = some (.int .i64 a3_0) ∧ w'.cell? ⟨gb226, 1, none⟩ = some (.int .i64 a3_1)) ∧ (w'.heap[gb223]? = some (.cells #[.int .i64 a0_0, .int .i64 a0_1] 23 (0, 0))) ∧ (w'.heap[gb224]? = some (.cells #[.int .i64 a1_0, .int .i64 a1_1] 23 (0, 0))) ∧ (w'.heap[gb225]? = some (.cells #[.int .i64 a2_0, .int .i64 a2_1] 23 (0, 0))) ∧ (w'.heap[gb226]? = some (.cells #[.int .i64 a3_0, .int .i64 a3_1] 23 (0, 0))) ∧ (w'.heap[gb238]? = some (.cells #[.int .i64 t235, .int .i64 t236] 24 (0, 0))) ∧ (Below w.heap.size w w')) ?_ ?_
          rotate_left
          ·
           intro hJ1_3
           refine join_ (σ := Nat) 9 #[Y, Y, Y, Z, Y, Z, Y, Z, Z, Z, Z, Z, Y, Z, Z] (fun s_ => [(27, .agg #[.int .i64 t239, .int .i64 t240]), (11, .pointer (some ⟨s_, 0, none⟩))]) (fun s_ w' => (w'.cell? ⟨gb223, 0, none⟩ = some (.int .i64 a0_0) ∧ w'.cell? ⟨gb223, 1, none⟩ = some (.int .i64 a0_1) ∧ w'.cell? ⟨gb224, 0, none⟩ = some (.int .i64 a1_0) ∧ w'.cell? ⟨gb224, 1, none⟩ = some (.int .i64 a1_1) ∧ w'.cell? ⟨gb225, 0, none⟩ = some (.int .i64 a2_0) ∧ w'.cell? ⟨gb225, 1, none⟩ = some (.int .i64 a2_1) ∧ w'.cell? ⟨gb226, 0, none⟩ = some (.int .i64 a3_0) ∧ w'.cell? ⟨gb226, 1, none⟩ = some (.int .i64 a3_1)) ∧ (w'.heap[gb223]? = some (.cells #[.int .i64 a0_0, .int .i64 a0_1] 23 (0, 0))) ∧ (w'.heap[gb224]? = some (.cells #[.int .i64 a1_0, .int .i64 a1_1] 23 (0, 0))) ∧ (w'.heap[gb225]? = some (.cells #[.int .i64 a2_0, .int .i64 a2_1] 23 (0, 0))) ∧ (w'.heap[gb226]? = some (.cells #[.int .i64 a3_0, .int .i64 a3_1] 23 (0, 0))) ∧ (w'.heap[gb238]? = some (.cells #[.int .i64 t235, .int .i64 t236] 24 (0, 0))) ∧ (w'.heap[s_]? = some (.cells #[.int .i64 0, .int .i64 0] 24 (0, 0))) ∧ (w.heap.size ≤ s_) ∧ (w.heap.size ≤ s_) ∧ (gb223 ≠ s_) ∧ (s_ ≠ gb223) ∧ (gb224 ≠ s_) ∧ (s_ ≠ gb224) ∧ (gb225 ≠ s_) ∧ (s_ ≠ gb225) ∧ (gb226 ≠ s_) ∧ (s_ ≠ gb226) ∧ (gb238 ≠ s_) ∧ (s_ ≠ gb238) ∧ (Below w.heap.size w w')) ?_ ?_
           rotate_left
           ·
            intro hJ1_12
            refine join_ (σ := Unit) 10 #[Y, Y, Y, Z, Y, Z, Y, Z, Z, Z, Z, Z, Z, Z, Z] (fun s_ => [(27, .agg #[.int .i64 t239, .int .i64 t240])]) (fun s_ w' => (w'.cell? ⟨gb223, 0, none⟩ = some (.int .i64 a0_0) ∧ w'.cell? ⟨gb223, 1, none⟩ = some (.int .i64 a0_1) ∧ w'.cell? ⟨gb224, 0, none⟩ = some (.int .i64 a1_0) ∧ w'.cell? ⟨gb224, 1, none⟩ = some (.int .i64 a1_1) ∧ w'.cell? ⟨gb225, 0, none⟩ = some (.int .i64 a2_0) ∧ w'.cell? ⟨gb225, 1, none⟩ = some (.int .i64 a2_1) ∧ w'.cell? ⟨gb226, 0, none⟩ = some (.int .i64 a3_0) ∧ w'.cell? ⟨gb226, 1, none⟩ = some (.int .i64 a3_1)) ∧ (w'.heap[gb223]? = some (.cells #[.int .i64 a0_0, .int .i64 a0_1] 23 (0, 0))) ∧ (w'.heap[gb224]? = some (.cells #[.int .i64 a1_0, .int .i64 a1_1] 23 (0, 0))) ∧ (w'.heap[gb225]? = some (.cells #[.int .i64 a2_0, .int .i64 a2_1] 23 (0, 0))) ∧ (w'.heap[gb226]? = some (.cells #[.int .i64 a3_0, .int .i64 a3_1] 23 (0, 0))) ∧ (w'.heap[gb238]? = some (.cells #[.int .i64 t235, .int .i64 t236] 24 (0, 0))) ∧ (Below w.heap.size w w')) ?_ ?_
            rotate_left
            ·
             intro hJ1
             refine join_ (σ := Nat) 10 #[Y, Z, Y, Z, Y, Z, Y, Z, Z, Z, Z, Z, Y, Z, Z] (fun s_ => [(11, .pointer (some ⟨s_, 0, none⟩))]) (fun s_ w' => (w'.cell? ⟨gb223, 0, none⟩ = some (.int .i64 a0_0) ∧ w'.cell? ⟨gb223, 1, none⟩ = some (.int .i64 a0_1) ∧ w'.cell? ⟨gb224, 0, none⟩ = some (.int .i64 a1_0) ∧ w'.cell? ⟨gb224, 1, none⟩ = some (.int .i64 a1_1) ∧ w'.cell? ⟨gb225, 0, none⟩ = some (.int .i64 a2_0) ∧ w'.cell? ⟨gb225, 1, none⟩ = some (.int .i64 a2_1) ∧ w'.cell? ⟨gb226, 0, none⟩ = some (.int .i64 a3_0) ∧ w'.cell? ⟨gb226, 1, none⟩ = some (.int .i64 a3_1)) ∧ (w'.heap[gb223]? = some (.cells #[.int .i64 a0_0, .int .i64 a0_1] 23 (0, 0))) ∧ (w'.heap[gb224]? = some (.cells #[.int .i64 a1_0, .int .i64 a1_1] 23 (0, 0))) ∧ (w'.heap[gb225]? = some (.cells #[.int .i64 a2_0, .int .i64 a2_1] 23 (0, 0))) ∧ (w'.heap[gb226]? = some (.cells #[.int .i64 a3_0, .int .i64 a3_1] 23 (0, 0))) ∧ (w'.heap[gb238]? = some (.cells #[.int .i64 t235, .int .i64 t236] 24 (0, 0))) ∧ (w'.heap[s_]? = some (.cells #[.int .i64 0, .int .i64 0] 24 (0, 0))) ∧ (w.heap.size ≤ s_) ∧ (w.heap.size ≤ s_) ∧ (gb223 ≠ s_) ∧ (s_ ≠ gb223) ∧ (gb224 ≠ s_) ∧ (s_ ≠ gb224) ∧ (gb225 ≠ s_) ∧ (s_ ≠ gb225) ∧ (gb226 ≠ s_) ∧ (s_ ≠ gb226) ∧ (gb238 ≠ s_) ∧ (s_ ≠ gb238) ∧ (Below w.heap.size w w')) ?_ ?_
             rotate_left
             ·
              intro hJ12
              refine two_ (i := 1) (j := 12) (Ni := some 27) (Nj := some 11) #[Y, Y, Y, Z, Y, Z, Y, Z, Z, Z, Z, Z, Z, Z, Z] #[Y, Z, Y, Z, Y, Z, Y, Z, Z, Z, Z, Z, Y, Z, Z] rfl rfl rfl rfl (two_of HT_.out (by kernel_rfl)) (by decide) (by decide) (fun K hK => ?_) (fun K hK => ?_)
              ·
               skip
               refine goes_ Try.func5 (by kernel_rfl) rfl #[.agg #[.int .i64 a0_0, .int .i64 a0_1]] (by rfl) rfl rfl hA ?_
               with_reducible refine (laws_toEnd.calls a0_0 a0_1 t239 t240 _ A10.out).mono ?_
               rintro e w34 ⟨rfl, hb⟩
               refine ⟨_, rfl, ?_⟩
               replace BK223 := kB BK223 hb
               replace BK224 := kB BK224 hb
               replace BK225 := kB BK225 hb
               replace BK226 := kB BK226 hb
               replace BK238 := kB BK238 hb
               replace HB := lB hb
               (try clear hb)
               (try clear hb2)
               (try clear hk)
               (try clear hi)
               refine hK.out _ _ ⟨cA BK223 0, cA BK223 1, cA BK224 0, cA BK224 1, cA BK225 0, cA BK225 1, cA BK226 0, cA BK226 1⟩ (fun hHeld => ?_)
               clear hK K
               refine norm_ (a' := ?_) ?_ ?_
               rotate_left
               ·
                show Act.put _ (some 27) _ = _
                simp only [pA]
                rfl
               exact norm_ (by first | (simp only [putAll, Act.put, List.setIfInBounds_toArray, List.set_cons_zero, List.set_cons_succ]; done) | (simp only [putAll, Act.put, List.setIfInBounds_toArray, List.set_cons_zero, List.set_cons_succ]; rfl)) (hJ1 () _ ⟨hHeld, (bkA BK223), (bkA BK224), (bkA BK225), (bkA BK226), (bkA BK238), blA⟩)
              ·
               skip
               refine box_step ?hg (N := 11) ?hd (cs := #[.int .i64 0, .int .i64 0]) (t := 24) ?hr ?_; (case hd => rfl); (case hg => rfl); (case hr => first | (go_simp; done) | (go_simp; rfl))
               intro gb250 hg w34 hbox hb
               have BK250 := Aside0.mk (hbox)
               have GW250 := sA hg
               have GE250 := sA hg
               have NB223_250 := nA hg BK223
               have NB250_223 := nB hg BK223
               have NB224_250 := nA hg BK224
               have NB250_224 := nB hg BK224
               have NB225_250 := nA hg BK225
               have NB250_225 := nB hg BK225
               have NB226_250 := nA hg BK226
               have NB250_226 := nB hg BK226
               have NB238_250 := nA hg BK238
               have NB250_238 := nB hg BK238
               replace BK223 := kB BK223 hb
               replace BK224 := kB BK224 hb
               replace BK225 := kB BK225 hb
               replace BK226 := kB BK226 hb
               replace BK238 := kB BK238 hb
               replace HB := lB hb
               clear hb hbox hg
               refine hK.out _ _ ⟨cA BK223 0, cA BK223 1, cA BK224 0, cA BK224 1, cA BK225 0, cA BK225 1, cA BK226 0, cA BK226 1⟩ (fun hHeld => ?_)
               clear hK K
               refine norm_ (a' := ?_) ?_ ?_
               rotate_left
               ·
                show Act.put _ (some 11) _ = _
                simp only [pA]
                rfl
               exact norm_ (by first | (simp only [putAll, Act.put, List.setIfInBounds_toArray, List.set_cons_zero, List.set_cons_succ]; done) | (simp only [putAll, Act.put, List.setIfInBounds_toArray, List.set_cons_zero, List.set_cons_succ]; rfl)) (hJ12 (gb250) _ ⟨hHeld, (bkA BK223), (bkA BK224), (bkA BK225), (bkA BK226), (bkA BK238), (bkA BK250), GW250.out, GE250.out, NB223_250.out, NB250_223.out, NB224_250.out, NB250_224.out, NB225_250.out, NB250_225.out, NB226_250.out, NB250_226.out, NB238_250.out, NB250_238.out, blA⟩)
             ·
              skip
              rintro gb250 w35 ⟨hS_, h0_, h1_, h2_, h3_, h4_, h5_, h6_, h7_, h8_, h9_, h10_, h11_, h12_, h13_, h14_, h15_, h16_, h17_, h18_⟩
              have BK250 := Aside0.mk h5_
              have GW250 := Aside0.mk h6_
              have GE250 := Aside0.mk h7_
              have NB223_250 := Aside0.mk h8_
              have NB250_223 := Aside0.mk h9_
              have NB224_250 := Aside0.mk h10_
              have NB250_224 := Aside0.mk h11_
              have NB225_250 := Aside0.mk h12_
              have NB250_225 := Aside0.mk h13_
              have NB226_250 := Aside0.mk h14_
              have NB250_226 := Aside0.mk h15_
              have NB238_250 := Aside0.mk h16_
              have NB250_238 := Aside0.mk h17_
              replace BK223 := Aside0.mk h0_
              replace BK224 := Aside0.mk h1_
              replace BK225 := Aside0.mk h2_
              replace BK226 := Aside0.mk h3_
              replace BK238 := Aside0.mk h4_
              replace HB := Aside0.mk h18_
              clear h0_ h1_ h2_ h3_ h4_ h5_ h6_ h7_ h8_ h9_ h10_ h11_ h12_ h13_ h14_ h15_ h16_ h17_ h18_
              have hHeld : w35.cell? ⟨gb223, 0, none⟩ = some (.int .i64 a0_0) ∧ w35.cell? ⟨gb223, 1, none⟩ = some (.int .i64 a0_1) ∧ w35.cell? ⟨gb224, 0, none⟩ = some (.int .i64 a1_0) ∧ w35.cell? ⟨gb224, 1, none⟩ = some (.int .i64 a1_1) ∧ w35.cell? ⟨gb225, 0, none⟩ = some (.int .i64 a2_0) ∧ w35.cell? ⟨gb225, 1, none⟩ = some (.int .i64 a2_1) ∧ w35.cell? ⟨gb226, 0, none⟩ = some (.int .i64 a3_0) ∧ w35.cell? ⟨gb226, 1, none⟩ = some (.int .i64 a3_1) := hS_
              refine norm_ (a' := ?_) ?_ ?_
              rotate_left
              ·
               simp only [putAll, Act.put, List.setIfInBounds_toArray, List.set_cons_zero, List.set_cons_succ]
               rfl
              refine one_ (i := 1) (N := some 27) #[Y, Y, Y, Z, Y, Z, Y, Z, Z, Z, Z, Z, Y, Z, Z] rfl rfl (one_of HT_.out (by kernel_rfl)) (by decide) (fun K hK => ?_)
              refine goes_ Try.func5 (by kernel_rfl) rfl #[.agg #[.int .i64 a0_0, .int .i64 a0_1]] (by rfl) rfl rfl hA ?_
              with_reducible refine (laws_toEnd.calls a0_0 a0_1 t239 t240 _ A10.out).mono ?_
              rintro e w36 ⟨rfl, hb⟩
              refine ⟨_, rfl, ?_⟩
              replace BK223 := kB BK223 hb
              replace BK224 := kB BK224 hb
              replace BK225 := kB BK225 hb
              replace BK226 := kB BK226 hb
              replace BK238 := kB BK238 hb
              replace BK250 := kB BK250 hb
              replace HB := lB hb
              (try clear hb)
              (try clear hb2)
              (try clear hk)
              (try clear hi)
              refine hK.out _ _ ⟨cA BK223 0, cA BK223 1, cA BK224 0, cA BK224 1, cA BK225 0, cA BK225 1, cA BK226 0, cA BK226 1⟩ (fun hHeld => ?_)
              clear hK K
              refine norm_ (a' := ?_) ?_ ?_
              rotate_left
              ·
               show Act.put _ (some 27) _ = _
               simp only [pA]
               rfl
              exact norm_ (by first | (simp only [putAll, Act.put, List.setIfInBounds_toArray, List.set_cons_zero, List.set_cons_succ]; done) | (simp only [putAll, Act.put, List.setIfInBounds_toArray, List.set_cons_zero, List.set_cons_succ]; rfl)) (hJ1_12 (gb250) _ ⟨hHeld, (bkA BK223), (bkA BK224), (bkA BK225), (bkA BK226), (bkA BK238), (bkA BK250), GW250.out, GE250.out, NB223_250.out, NB250_223.out, NB224_250.out, NB250_224.out, NB225_250.out, NB250_225.out, NB226_250.out, NB250_226.out, NB238_250.out, NB250_238.out, blA⟩)
            ·
             skip
             rintro _ w35 ⟨hS_, h0_, h1_, h2_, h3_, h4_, h5_⟩
             replace BK223 := Aside0.mk h0_
             replace BK224 := Aside0.mk h1_
             replace BK225 := Aside0.mk h2_
             replace BK226 := Aside0.mk h3_
             replace BK238 := Aside0.mk h4_
             replace HB := Aside0.mk h5_
             clear h0_ h1_ h2_ h3_ h4_ h5_
             have hHeld : w35.cell? ⟨gb223, 0, none⟩ = some (.int .i64 a0_0) ∧ w35.cell? ⟨gb223, 1, none⟩ = some (.int .i64 a0_1) ∧ w35.cell? ⟨gb224, 0, none⟩ = some (.int .i64 a1_0) ∧ w35.cell? ⟨gb224, 1, none⟩ = some (.int .i64 a1_1) ∧ w35.cell? ⟨gb225, 0, none⟩ = some (.int .i64 a2_0) ∧ w35.cell? ⟨gb225, 1, none⟩ = some (.int .i64 a2_1) ∧ w35.cell? ⟨gb226, 0, none⟩ = some (.int .i64 a3_0) ∧ w35.cell? ⟨gb226, 1, none⟩ = some (.int .i64 a3_1) := hS_
             refine norm_ (a' := ?_) ?_ ?_
             rotate_left
             ·
              simp only [putAll, Act.put, List.setIfInBounds_toArray, List.set_cons_zero, List.set_cons_succ]
              rfl
             refine two_ (i := 3) (j := 12) (Ni := some 29) (Nj := some 11) #[Y, Y, Y, Y, Y, Z, Y, Z, Z, Z, Z, Z, Z, Z, Z] #[Y, Y, Y, Z, Y, Z, Y, Z, Z, Z, Z, Z, Y, Z, Z] rfl rfl rfl rfl (two_of HT_.out (by kernel_rfl)) (by decide) (by decide) (fun K hK => ?_) (fun K hK => ?_)
             ·
              skip
              refine goes_ Try.func5 (by kernel_rfl) rfl #[.agg #[.int .i64 a1_0, .int .i64 a1_1]] (by rfl) rfl rfl hA ?_
              with_reducible refine (laws_toEnd.calls a1_0 a1_1 t241 t242 _ A11.out).mono ?_
              rintro e w36 ⟨rfl, hb⟩
              refine ⟨_, rfl, ?_⟩
              replace BK223 := kB BK223 hb
              replace BK224 := kB BK224 hb
              replace BK225 := kB BK225 hb
              replace BK226 := kB BK226 hb
              replace BK238 := kB BK238 hb
              replace HB := lB hb
              (try clear hb)
              (try clear hb2)
              (try clear hk)
              (try clear hi)
              refine hK.out _ _ ⟨cA BK223 0, cA BK223 1, cA BK224 0, cA BK224 1, cA BK225 0, cA BK225 1, cA BK226 0, cA BK226 1⟩ (fun hHeld => ?_)
              clear hK K
              refine norm_ (a' := ?_) ?_ ?_
              rotate_left
              ·
               show Act.put _ (some 29) _ = _
               simp only [pA]
               rfl
              exact norm_ (by first | (simp only [putAll, Act.put, List.setIfInBounds_toArray, List.set_cons_zero, List.set_cons_succ]; done) | (simp only [putAll, Act.put, List.setIfInBounds_toArray, List.set_cons_zero, List.set_cons_succ]; rfl)) (hJ1_3 () _ ⟨hHeld, (bkA BK223), (bkA BK224), (bkA BK225), (bkA BK226), (bkA BK238), blA⟩)
             ·
              skip
              refine box_step ?hg (N := 11) ?hd (cs := #[.int .i64 0, .int .i64 0]) (t := 24) ?hr ?_; (case hd => rfl); (case hg => rfl); (case hr => first | (go_simp; done) | (go_simp; rfl))
              intro gb250 hg w36 hbox hb
              have BK250 := Aside0.mk (hbox)
              have GW250 := sA hg
              have GE250 := sA hg
              have NB223_250 := nA hg BK223
              have NB250_223 := nB hg BK223
              have NB224_250 := nA hg BK224
              have NB250_224 := nB hg BK224
              have NB225_250 := nA hg BK225
              have NB250_225 := nB hg BK225
              have NB226_250 := nA hg BK226
              have NB250_226 := nB hg BK226
              have NB238_250 := nA hg BK238
              have NB250_238 := nB hg BK238
              replace BK223 := kB BK223 hb
              replace BK224 := kB BK224 hb
              replace BK225 := kB BK225 hb
              replace BK226 := kB BK226 hb
              replace BK238 := kB BK238 hb
              replace HB := lB hb
              clear hb hbox hg
              refine hK.out _ _ ⟨cA BK223 0, cA BK223 1, cA BK224 0, cA BK224 1, cA BK225 0, cA BK225 1, cA BK226 0, cA BK226 1⟩ (fun hHeld => ?_)
              clear hK K
              refine norm_ (a' := ?_) ?_ ?_
              rotate_left
              ·
               show Act.put _ (some 11) _ = _
               simp only [pA]
               rfl
              exact norm_ (by first | (simp only [putAll, Act.put, List.setIfInBounds_toArray, List.set_cons_zero, List.set_cons_succ]; done) | (simp only [putAll, Act.put, List.setIfInBounds_toArray, List.set_cons_zero, List.set_cons_succ]; rfl)) (hJ1_12 (gb250) _ ⟨hHeld, (bkA BK223), (bkA BK224), (bkA BK225), (bkA BK226), (bkA BK238), (bkA BK250), GW250.out, GE250.out, NB223_250.out, NB250_223.out, NB224_250.out, NB250_224.out, NB225_250.out, NB250_225.out, NB226_250.out, NB250_226.out, NB238_250.out, NB250_238.out, blA⟩)
           ·
            skip
            rintro gb250 w36 ⟨hS_, h0_, h1_, h2_, h3_, h4_, h5_, h6_, h7_, h8_, h9_, h10_, h11_, h12_, h13_, h14_, h15_, h16_, h17_, h18_⟩
            have BK250 := Aside0.mk h5_
            have GW250 := Aside0.mk h6_
            have GE250 := Aside0.mk h7_
            have NB223_250 := Aside0.mk h8_
            have NB250_223 := Aside0.mk h9_
            have NB224_250 := Aside0.mk h10_
            have NB250_224 := Aside0.mk h11_
            have NB225_250 := Aside0.mk h12_
            have NB250_225 := Aside0.mk h13_
            have NB226_250 := Aside0.mk h14_
            have NB250_226 := Aside0.mk h15_
            have NB238_250 := Aside0.mk h16_
            have NB250_238 := Aside0.mk h17_
            replace BK223 := Aside0.mk h0_
            replace BK224 := Aside0.mk h1_
            replace BK225 := Aside0.mk h2_
            replace BK226 := Aside0.mk h3_
            replace BK238 := Aside0.mk h4_
            replace HB := Aside0.mk h18_
            clear h0_ h1_ h2_ h3_ h4_ h5_ h6_ h7_ h8_ h9_ h10_ h11_ h12_ h13_ h14_ h15_ h16_ h17_ h18_
            have hHeld : w36.cell? ⟨gb223, 0, none⟩ = some (.int .i64 a0_0) ∧ w36.cell? ⟨gb223, 1, none⟩ = some (.int .i64 a0_1) ∧ w36.cell? ⟨gb224, 0, none⟩ = some (.int .i64 a1_0) ∧ w36.cell? ⟨gb224, 1, none⟩ = some (.int .i64 a1_1) ∧ w36.cell? ⟨gb225, 0, none⟩ = some (.int .i64 a2_0) ∧ w36.cell? ⟨gb225, 1, none⟩ = some (.int .i64 a2_1) ∧ w36.cell? ⟨gb226, 0, none⟩ = some (.int .i64 a3_0) ∧ w36.cell? ⟨gb226, 1, none⟩ = some (.int .i64 a3_1) := hS_
            refine norm_ (a' := ?_) ?_ ?_
            rotate_left
            ·
             simp only [putAll, Act.put, List.setIfInBounds_toArray, List.set_cons_zero, List.set_cons_succ]
             rfl
            refine one_ (i := 3) (N := some 29) #[Y, Y, Y, Y, Y, Z, Y, Z, Z, Z, Z, Z, Y, Z, Z] rfl rfl (one_of HT_.out (by kernel_rfl)) (by decide) (fun K hK => ?_)
            refine goes_ Try.func5 (by kernel_rfl) rfl #[.agg #[.int .i64 a1_0, .int .i64 a1_1]] (by rfl) rfl rfl hA ?_
            with_reducible refine (laws_toEnd.calls a1_0 a1_1 t241 t242 _ A11.out).mono ?_
            rintro e w37 ⟨rfl, hb⟩
            refine ⟨_, rfl, ?_⟩
            replace BK223 := kB BK223 hb
            replace BK224 := kB BK224 hb
            replace BK225 := kB BK225 hb
            replace BK226 := kB BK226 hb
            replace BK238 := kB BK238 hb
            replace BK250 := kB BK250 hb
            replace HB := lB hb
            (try clear hb)
            (try clear hb2)
            (try clear hk)
            (try clear hi)
            refine hK.out _ _ ⟨cA BK223 0, cA BK223 1, cA BK224 0, cA BK224 1, cA BK225 0, cA BK225 1, cA BK226 0, cA BK226 1⟩ (fun hHeld => ?_)
            clear hK K
            refine norm_ (a' := ?_) ?_ ?_
            rotate_left
            ·
             show Act.put _ (some 29) _ = _
             simp only [pA]
             rfl
            exact norm_ (by first | (simp only [putAll, Act.put, List.setIfInBounds_toArray, List.set_cons_zero, List.set_cons_succ]; done) | (simp only [putAll, Act.put, List.setIfInBounds_toArray, List.set_cons_zero, List.set_cons_succ]; rfl)) (hJ1_3_12 (gb250) _ ⟨hHeld, (bkA BK223), (bkA BK224), (bkA BK225), (bkA BK226), (bkA BK238), (bkA BK250), GW250.out, GE250.out, NB223_250.out, NB250_223.out, NB224_250.out, NB250_224.out, NB225_250.out, NB250_225.out, NB226_250.out, NB250_226.out, NB238_250.out, NB250_238.out, blA⟩)
          ·
           skip
           rintro _ w36 ⟨hS_, h0_, h1_, h2_, h3_, h4_, h5_⟩
           replace BK223 := Aside0.mk h0_
           replace BK224 := Aside0.mk h1_
           replace BK225 := Aside0.mk h2_
           replace BK226 := Aside0.mk h3_
           replace BK238 := Aside0.mk h4_
           replace HB := Aside0.mk h5_
           clear h0_ h1_ h2_ h3_ h4_ h5_
           have hHeld : w36.cell? ⟨gb223, 0, none⟩ = some (.int .i64 a0_0) ∧ w36.cell? ⟨gb223, 1, none⟩ = some (.int .i64 a0_1) ∧ w36.cell? ⟨gb224, 0, none⟩ = some (.int .i64 a1_0) ∧ w36.cell? ⟨gb224, 1, none⟩ = some (.int .i64 a1_1) ∧ w36.cell? ⟨gb225, 0, none⟩ = some (.int .i64 a2_0) ∧ w36.cell? ⟨gb225, 1, none⟩ = some (.int .i64 a2_1) ∧ w36.cell? ⟨gb226, 0, none⟩ = some (.int .i64 a3_0) ∧ w36.cell? ⟨gb226, 1, none⟩ = some (.int .i64 a3_1) := hS_
           refine norm_ (a' := ?_) ?_ ?_
           rotate_left
           ·
            simp only [putAll, Act.put, List.setIfInBounds_toArray, List.set_cons_zero, List.set_cons_succ]
            rfl
           refine two_ (i := 5) (j := 12) (Ni := some 31) (Nj := some 11) #[Y, Y, Y, Y, Y, Y, Y, Z, Z, Z, Z, Z, Z, Z, Z] #[Y, Y, Y, Y, Y, Z, Y, Z, Z, Z, Z, Z, Y, Z, Z] rfl rfl rfl rfl (two_of HT_.out (by kernel_rfl)) (by decide) (by decide) (fun K hK => ?_) (fun K hK => ?_)
           ·
            skip
            refine goes_ Try.func5 (by kernel_rfl) rfl #[.agg #[.int .i64 a2_0, .int .i64 a2_1]] (by rfl) rfl rfl hA ?_
            with_reducible refine (laws_toEnd.calls a2_0 a2_1 t243 t244 _ A12.out).mono ?_
            rintro e w37 ⟨rfl, hb⟩
            refine ⟨_, rfl, ?_⟩
            replace BK223 := kB BK223 hb
            replace BK224 := kB BK224 hb
            replace BK225 := kB BK225 hb
            replace BK226 := kB BK226 hb
            replace BK238 := kB BK238 hb
            replace HB := lB hb
            (try clear hb)
            (try clear hb2)
            (try clear hk)
            (try clear hi)
            refine hK.out _ _ ⟨cA BK223 0, cA BK223 1, cA BK224 0, cA BK224 1, cA BK225 0, cA BK225 1, cA BK226 0, cA BK226 1⟩ (fun hHeld => ?_)
            clear hK K
            refine norm_ (a' := ?_) ?_ ?_
            rotate_left
            ·
             show Act.put _ (some 31) _ = _
             simp only [pA]
             rfl
            exact norm_ (by first | (simp only [putAll, Act.put, List.setIfInBounds_toArray, List.set_cons_zero, List.set_cons_succ]; done) | (simp only [putAll, Act.put, List.setIfInBounds_toArray, List.set_cons_zero, List.set_cons_succ]; rfl)) (hJ1_3_5 () _ ⟨hHeld, (bkA BK223), (bkA BK224), (bkA BK225), (bkA BK226), (bkA BK238), blA⟩)
           ·
            skip
            refine box_step ?hg (N := 11) ?hd (cs := #[.int .i64 0, .int .i64 0]) (t := 24) ?hr ?_; (case hd => rfl); (case hg => rfl); (case hr => first | (go_simp; done) | (go_simp; rfl))
            intro gb250 hg w37 hbox hb
            have BK250 := Aside0.mk (hbox)
            have GW250 := sA hg
            have GE250 := sA hg
            have NB223_250 := nA hg BK223
            have NB250_223 := nB hg BK223
            have NB224_250 := nA hg BK224
            have NB250_224 := nB hg BK224
            have NB225_250 := nA hg BK225
            have NB250_225 := nB hg BK225
            have NB226_250 := nA hg BK226
            have NB250_226 := nB hg BK226
            have NB238_250 := nA hg BK238
            have NB250_238 := nB hg BK238
            replace BK223 := kB BK223 hb
            replace BK224 := kB BK224 hb
            replace BK225 := kB BK225 hb
            replace BK226 := kB BK226 hb
            replace BK238 := kB BK238 hb
            replace HB := lB hb
            clear hb hbox hg
            refine hK.out _ _ ⟨cA BK223 0, cA BK223 1, cA BK224 0, cA BK224 1, cA BK225 0, cA BK225 1, cA BK226 0, cA BK226 1⟩ (fun hHeld => ?_)
            clear hK K
            refine norm_ (a' := ?_) ?_ ?_
            rotate_left
            ·
             show Act.put _ (some 11) _ = _
             simp only [pA]
             rfl
            exact norm_ (by first | (simp only [putAll, Act.put, List.setIfInBounds_toArray, List.set_cons_zero, List.set_cons_succ]; done) | (simp only [putAll, Act.put, List.setIfInBounds_toArray, List.set_cons_zero, List.set_cons_succ]; rfl)) (hJ1_3_12 (gb250) _ ⟨hHeld, (bkA BK223), (bkA BK224), (bkA BK225), (bkA BK226), (bkA BK238), (bkA BK250), GW250.out, GE250.out, NB223_250.out, NB250_223.out, NB224_250.out, NB250_224.out, NB225_250.out, NB250_225.out, NB226_250.out, NB250_226.out, NB238_250.out, NB250_238.out, blA⟩)
         ·
          skip
          rintro gb250 w37 ⟨hS_, h0_, h1_, h2_, h3_, h4_, h5_, h6_, h7_, h8_, h9_, h10_, h11_, h12_, h13_, h14_, h15_, h16_, h17_, h18_⟩
          have BK250 := Aside0.mk h5_
          have GW250 := Aside0.mk h6_
          have GE250 := Aside0.mk h7_
          have NB223_250 := Aside0.mk h8_
          have NB250_223 := Aside0.mk h9_
          have NB224_250 := Aside0.mk h10_
          have NB250_224 := Aside0.mk h11_
          have NB225_250 := Aside0.mk h12_
          have NB250_225 := Aside0.mk h13_
          have NB226_250 := Aside0.mk h14_
          have NB250_226 := Aside0.mk h15_
          have NB238_250 := Aside0.mk h16_
          have NB250_238 := Aside0.mk h17_
          replace BK223 := Aside0.mk h0_
          replace BK224 := Aside0.mk h1_
          replace BK225 := Aside0.mk h2_
          replace BK226 := Aside0.mk h3_
          replace BK238 := Aside0.mk h4_
          replace HB := Aside0.mk h18_
          clear h0_ h1_ h2_ h3_ h4_ h5_ h6_ h7_ h8_ h9_ h10_ h11_ h12_ h13_ h14_ h15_ h16_ h17_ h18_
          have hHeld : w37.cell? ⟨gb223, 0, none⟩ = some (.int .i64 a0_0) ∧ w37.cell? ⟨gb223, 1, none⟩ = some (.int .i64 a0_1) ∧ w37.cell? ⟨gb224, 0, none⟩ = some (.int .i64 a1_0) ∧ w37.cell? ⟨gb224, 1, none⟩ = some (.int .i64 a1_1) ∧ w37.cell? ⟨gb225, 0, none⟩ = some (.int .i64 a2_0) ∧ w37.cell? ⟨gb225, 1, none⟩ = some (.int .i64 a2_1) ∧ w37.cell? ⟨gb226, 0, none⟩ = some (.int .i64 a3_0) ∧ w37.cell? ⟨gb226, 1, none⟩ = some (.int .i64 a3_1) := hS_
          refine norm_ (a' := ?_) ?_ ?_
          rotate_left
          ·
           simp only [putAll, Act.put, List.setIfInBounds_toArray, List.set_cons_zero, List.set_cons_succ]
           rfl
          refine one_ (i := 5) (N := some 31) #[Y, Y, Y, Y, Y, Y, Y, Z, Z, Z, Z, Z, Y, Z, Z] rfl rfl (one_of HT_.out (by kernel_rfl)) (by decide) (fun K hK => ?_)
          refine goes_ Try.func5 (by kernel_rfl) rfl #[.agg #[.int .i64 a2_0, .int .i64 a2_1]] (by rfl) rfl rfl hA ?_
          with_reducible refine (laws_toEnd.calls a2_0 a2_1 t243 t244 _ A12.out).mono ?_
          rintro e w38 ⟨rfl, hb⟩
          refine ⟨_, rfl, ?_⟩
          replace BK223 := kB BK223 hb
          replace BK224 := kB BK224 hb
          replace BK225 := kB BK225 hb
          replace BK226 := kB BK226 hb
          replace BK238 := kB BK238 hb
          replace BK250 := kB BK250 hb
          replace HB := lB hb
          (try clear hb)
          (try clear hb2)
          (try clear hk)
          (try clear hi)
          refine hK.out _ _ ⟨cA BK223 0, cA BK223 1, cA BK224 0, cA BK224 1, cA BK225 0, cA BK225 1, cA BK226 0, cA BK226 1⟩ (fun hHeld => ?_)
          clear hK K
          refine norm_ (a' := ?_) ?_ ?_
          rotate_left
          ·
           show Act.put _ (some 31) _ = _
           simp only [pA]
           rfl
          exact norm_ (by first | (simp only [putAll, Act.put, List.setIfInBounds_toArray, List.set_cons_zero, List.set_cons_succ]; done) | (simp only [putAll, Act.put, List.setIfInBounds_toArray, List.set_cons_zero, List.set_cons_succ]; rfl)) (hJ1_3_5_12 (gb250) _ ⟨hHeld, (bkA BK223), (bkA BK224), (bkA BK225), (bkA BK226), (bkA BK238), (bkA BK250), GW250.out, GE250.out, NB223_250.out, NB250_223.out, NB224_250.out, NB250_224.out, NB225_250.out, NB250_225.out, NB226_250.out, NB250_226.out, NB238_250.out, NB250_238.out, blA⟩)
        ·
         skip
         rintro _ w37 ⟨hS_, h0_, h1_, h2_, h3_, h4_, h5_⟩
         replace BK223 := Aside0.mk h0_
         replace BK224 := Aside0.mk h1_
         replace BK225 := Aside0.mk h2_
         replace BK226 := Aside0.mk h3_
         replace BK238 := Aside0.mk h4_
         replace HB := Aside0.mk h5_
         clear h0_ h1_ h2_ h3_ h4_ h5_
         have hHeld : w37.cell? ⟨gb223, 0, none⟩ = some (.int .i64 a0_0) ∧ w37.cell? ⟨gb223, 1, none⟩ = some (.int .i64 a0_1) ∧ w37.cell? ⟨gb224, 0, none⟩ = some (.int .i64 a1_0) ∧ w37.cell? ⟨gb224, 1, none⟩ = some (.int .i64 a1_1) ∧ w37.cell? ⟨gb225, 0, none⟩ = some (.int .i64 a2_0) ∧ w37.cell? ⟨gb225, 1, none⟩ = some (.int .i64 a2_1) ∧ w37.cell? ⟨gb226, 0, none⟩ = some (.int .i64 a3_0) ∧ w37.cell? ⟨gb226, 1, none⟩ = some (.int .i64 a3_1) := hS_
         refine norm_ (a' := ?_) ?_ ?_
         rotate_left
         ·
          simp only [putAll, Act.put, List.setIfInBounds_toArray, List.set_cons_zero, List.set_cons_succ]
          rfl
         refine two_ (i := 7) (j := 12) (Ni := some 33) (Nj := some 11) #[Y, Y, Y, Y, Y, Y, Y, Y, Z, Z, Z, Z, Z, Z, Z] #[Y, Y, Y, Y, Y, Y, Y, Z, Z, Z, Z, Z, Y, Z, Z] rfl rfl rfl rfl (two_of HT_.out (by kernel_rfl)) (by decide) (by decide) (fun K hK => ?_) (fun K hK => ?_)
         ·
          skip
          refine goes_ Try.func5 (by kernel_rfl) rfl #[.agg #[.int .i64 a3_0, .int .i64 a3_1]] (by rfl) rfl rfl hA ?_
          with_reducible refine (laws_toEnd.calls a3_0 a3_1 t245 t246 _ A13.out).mono ?_
          rintro e w38 ⟨rfl, hb⟩
          refine ⟨_, rfl, ?_⟩
          replace BK223 := kB BK223 hb
          replace BK224 := kB BK224 hb
          replace BK225 := kB BK225 hb
          replace BK226 := kB BK226 hb
          replace BK238 := kB BK238 hb
          replace HB := lB hb
          (try clear hb)
          (try clear hb2)
          (try clear hk)
          (try clear hi)
          refine hK.out _ _ ⟨cA BK223 0, cA BK223 1, cA BK224 0, cA BK224 1, cA BK225 0, cA BK225 1, cA BK226 0, cA BK226 1⟩ (fun hHeld => ?_)
          clear hK K
          refine norm_ (a' := ?_) ?_ ?_
          rotate_left
          ·
           show Act.put _ (some 33) _ = _
           simp only [pA]
           rfl
          exact norm_ (by first | (simp only [putAll, Act.put, List.setIfInBounds_toArray, List.set_cons_zero, List.set_cons_succ]; done) | (simp only [putAll, Act.put, List.setIfInBounds_toArray, List.set_cons_zero, List.set_cons_succ]; rfl)) (hJ1_3_5_7 () _ ⟨hHeld, (bkA BK223), (bkA BK224), (bkA BK225), (bkA BK226), (bkA BK238), blA⟩)
         ·
          skip
          refine box_step ?hg (N := 11) ?hd (cs := #[.int .i64 0, .int .i64 0]) (t := 24) ?hr ?_; (case hd => rfl); (case hg => rfl); (case hr => first | (go_simp; done) | (go_simp; rfl))
          intro gb250 hg w38 hbox hb
          have BK250 := Aside0.mk (hbox)
          have GW250 := sA hg
          have GE250 := sA hg
          have NB223_250 := nA hg BK223
          have NB250_223 := nB hg BK223
          have NB224_250 := nA hg BK224
          have NB250_224 := nB hg BK224
          have NB225_250 := nA hg BK225
          have NB250_225 := nB hg BK225
          have NB226_250 := nA hg BK226
          have NB250_226 := nB hg BK226
          have NB238_250 := nA hg BK238
          have NB250_238 := nB hg BK238
          replace BK223 := kB BK223 hb
          replace BK224 := kB BK224 hb
          replace BK225 := kB BK225 hb
          replace BK226 := kB BK226 hb
          replace BK238 := kB BK238 hb
          replace HB := lB hb
          clear hb hbox hg
          refine hK.out _ _ ⟨cA BK223 0, cA BK223 1, cA BK224 0, cA BK224 1, cA BK225 0, cA BK225 1, cA BK226 0, cA BK226 1⟩ (fun hHeld => ?_)
          clear hK K
          refine norm_ (a' := ?_) ?_ ?_
          rotate_left
          ·
           show Act.put _ (some 11) _ = _
           simp only [pA]
           rfl
          exact norm_ (by first | (simp only [putAll, Act.put, List.setIfInBounds_toArray, List.set_cons_zero, List.set_cons_succ]; done) | (simp only [putAll, Act.put, List.setIfInBounds_toArray, List.set_cons_zero, List.set_cons_succ]; rfl)) (hJ1_3_5_12 (gb250) _ ⟨hHeld, (bkA BK223), (bkA BK224), (bkA BK225), (bkA BK226), (bkA BK238), (bkA BK250), GW250.out, GE250.out, NB223_250.out, NB250_223.out, NB224_250.out, NB250_224.out, NB225_250.out, NB250_225.out, NB226_250.out, NB250_226.out, NB238_250.out, NB250_238.out, blA⟩)
       ·
        skip
        rintro gb250 w38 ⟨hS_, h0_, h1_, h2_, h3_, h4_, h5_, h6_, h7_, h8_, h9_, h10_, h11_, h12_, h13_, h14_, h15_, h16_, h17_, h18_⟩
        have BK250 := Aside0.mk h5_
        have GW250 := Aside0.mk h6_
        have GE250 := Aside0.mk h7_
        have NB223_250 := Aside0.mk h8_
        have NB250_223 := Aside0.mk h9_
        have NB224_250 := Aside0.mk h10_
        have NB250_224 := Aside0.mk h11_
        have NB225_250 := Aside0.mk h12_
        have NB250_225 := Aside0.mk h13_
        have NB226_250 := Aside0.mk h14_
        have NB250_226 := Aside0.mk h15_
        have NB238_250 := Aside0.mk h16_
        have NB250_238 := Aside0.mk h17_
        replace BK223 := Aside0.mk h0_
        replace BK224 := Aside0.mk h1_
        replace BK225 := Aside0.mk h2_
        replace BK226 := Aside0.mk h3_
        replace BK238 := Aside0.mk h4_
        replace HB := Aside0.mk h18_
        clear h0_ h1_ h2_ h3_ h4_ h5_ h6_ h7_ h8_ h9_ h10_ h11_ h12_ h13_ h14_ h15_ h16_ h17_ h18_
        have hHeld : w38.cell? ⟨gb223, 0, none⟩ = some (.int .i64 a0_0) ∧ w38.cell? ⟨gb223, 1, none⟩ = some (.int .i64 a0_1) ∧ w38.cell? ⟨gb224, 0, none⟩ = some (.int .i64 a1_0) ∧ w38.cell? ⟨gb224, 1, none⟩ = some (.int .i64 a1_1) ∧ w38.cell? ⟨gb225, 0, none⟩ = some (.int .i64 a2_0) ∧ w38.cell? ⟨gb225, 1, none⟩ = some (.int .i64 a2_1) ∧ w38.cell? ⟨gb226, 0, none⟩ = some (.int .i64 a3_0) ∧ w38.cell? ⟨gb226, 1, none⟩ = some (.int .i64 a3_1) := hS_
        refine norm_ (a' := ?_) ?_ ?_
        rotate_left
        ·
         simp only [putAll, Act.put, List.setIfInBounds_toArray, List.set_cons_zero, List.set_cons_succ]
         rfl
        refine one_ (i := 7) (N := some 33) #[Y, Y, Y, Y, Y, Y, Y, Y, Z, Z, Z, Z, Y, Z, Z] rfl rfl (one_of HT_.out (by kernel_rfl)) (by decide) (fun K hK => ?_)
        refine goes_ Try.func5 (by kernel_rfl) rfl #[.agg #[.int .i64 a3_0, .int .i64 a3_1]] (by rfl) rfl rfl hA ?_
        with_reducible refine (laws_toEnd.calls a3_0 a3_1 t245 t246 _ A13.out).mono ?_
        rintro e w39 ⟨rfl, hb⟩
        refine ⟨_, rfl, ?_⟩
        replace BK223 := kB BK223 hb
        replace BK224 := kB BK224 hb
        replace BK225 := kB BK225 hb
        replace BK226 := kB BK226 hb
        replace BK238 := kB BK238 hb
        replace BK250 := kB BK250 hb
        replace HB := lB hb
        (try clear hb)
        (try clear hb2)
        (try clear hk)
        (try clear hi)
        refine hK.out _ _ ⟨cA BK223 0, cA BK223 1, cA BK224 0, cA BK224 1, cA BK225 0, cA BK225 1, cA BK226 0, cA BK226 1⟩ (fun hHeld => ?_)
        clear hK K
        refine norm_ (a' := ?_) ?_ ?_
        rotate_left
        ·
         show Act.put _ (some 33) _ = _
         simp only [pA]
         rfl
        exact norm_ (by first | (simp only [putAll, Act.put, List.setIfInBounds_toArray, List.set_cons_zero, List.set_cons_succ]; done) | (simp only [putAll, Act.put, List.setIfInBounds_toArray, List.set_cons_zero, List.set_cons_succ]; rfl)) (hJ1_3_5_7_12 (gb250) _ ⟨hHeld, (bkA BK223), (bkA BK224), (bkA BK225), (bkA BK226), (bkA BK238), (bkA BK250), GW250.out, GE250.out, NB223_250.out, NB250_223.out, NB224_250.out, NB250_224.out, NB225_250.out, NB250_225.out, NB226_250.out, NB250_226.out, NB238_250.out, NB250_238.out, blA⟩)
      ·
       skip
       rintro _ w38 ⟨hS_, h0_, h1_, h2_, h3_, h4_, h5_⟩
       replace BK223 := Aside0.mk h0_
       replace BK224 := Aside0.mk h1_
       replace BK225 := Aside0.mk h2_
       replace BK226 := Aside0.mk h3_
       replace BK238 := Aside0.mk h4_
       replace HB := Aside0.mk h5_
       clear h0_ h1_ h2_ h3_ h4_ h5_
       have hHeld : w38.cell? ⟨gb223, 0, none⟩ = some (.int .i64 a0_0) ∧ w38.cell? ⟨gb223, 1, none⟩ = some (.int .i64 a0_1) ∧ w38.cell? ⟨gb224, 0, none⟩ = some (.int .i64 a1_0) ∧ w38.cell? ⟨gb224, 1, none⟩ = some (.int .i64 a1_1) ∧ w38.cell? ⟨gb225, 0, none⟩ = some (.int .i64 a2_0) ∧ w38.cell? ⟨gb225, 1, none⟩ = some (.int .i64 a2_1) ∧ w38.cell? ⟨gb226, 0, none⟩ = some (.int .i64 a3_0) ∧ w38.cell? ⟨gb226, 1, none⟩ = some (.int .i64 a3_1) := hS_
       refine norm_ (a' := ?_) ?_ ?_
       rotate_left
       ·
        simp only [putAll, Act.put, List.setIfInBounds_toArray, List.set_cons_zero, List.set_cons_succ]
        rfl
       refine two_ (i := 8) (j := 12) (Ni := some 34) (Nj := some 11) #[Y, Y, Y, Y, Y, Y, Y, Y, Y, Z, Z, Z, Z, Z, Z] #[Y, Y, Y, Y, Y, Y, Y, Y, Z, Z, Z, Z, Y, Z, Z] rfl rfl rfl rfl (two_of HT_.out (by kernel_rfl)) (by decide) (by decide) (fun K hK => ?_) (fun K hK => ?_)
       ·
        skip
        refine goes_ Try.func6 (by kernel_rfl) rfl #[.agg #[.int .i64 t239, .int .i64 t240], .agg #[.int .i64 t241, .int .i64 t242], .agg #[.int .i64 t243, .int .i64 t244], .agg #[.int .i64 t245, .int .i64 t246]] (by rfl) rfl rfl hA ?_
        with_reducible refine (impl_CrossRatio.calls k t239 t240 t241 t242 t243 t244 t245 t246 t247 t248 t249 _ A14.out).mono ?_
        rintro e w39 ⟨rfl, hb⟩
        refine ⟨_, rfl, ?_⟩
        replace BK223 := kB BK223 hb
        replace BK224 := kB BK224 hb
        replace BK225 := kB BK225 hb
        replace BK226 := kB BK226 hb
        replace BK238 := kB BK238 hb
        replace HB := lB hb
        (try clear hb)
        (try clear hb2)
        (try clear hk)
        (try clear hi)
        refine hK.out _ _ ⟨cA BK223 0, cA BK223 1, cA BK224 0, cA BK224 1, cA BK225 0, cA BK225 1, cA BK226 0, cA BK226 1⟩ (fun hHeld => ?_)
        clear hK K
        refine norm_ (a' := ?_) ?_ ?_
        rotate_left
        ·
         show Act.put _ (some 34) _ = _
         simp only [pA]
         rfl
        refine puA (i := 9) (N := some 25) #[Y, Y, Y, Y, Y, Y, Y, Y, Y, Y, Z, Z, Z, Z, Z] rfl rfl HT_ ?_
        refine puA (i := 10) (N := some 35) #[Y, Y, Y, Y, Y, Y, Y, Y, Y, Y, Y, Z, Z, Z, Z] rfl rfl HT_ ?_
        refine puA (i := 11) (N := some 36) #[Y, Y, Y, Y, Y, Y, Y, Y, Y, Y, Y, Y, Z, Z, Z] rfl rfl HT_ ?_
        exact norm_ (by first | (simp only [putAll, Act.put, List.setIfInBounds_toArray, List.set_cons_zero, List.set_cons_succ]; done) | (simp only [putAll, Act.put, List.setIfInBounds_toArray, List.set_cons_zero, List.set_cons_succ]; rfl)) (hJ1_3_5_7_8 () _ ⟨hHeld, (bkA BK223), (bkA BK224), (bkA BK225), (bkA BK226), (bkA BK238), blA⟩)
       ·
        skip
        refine box_step ?hg (N := 11) ?hd (cs := #[.int .i64 0, .int .i64 0]) (t := 24) ?hr ?_; (case hd => rfl); (case hg => rfl); (case hr => first | (go_simp; done) | (go_simp; rfl))
        intro gb250 hg w39 hbox hb
        have BK250 := Aside0.mk (hbox)
        have GW250 := sA hg
        have GE250 := sA hg
        have NB223_250 := nA hg BK223
        have NB250_223 := nB hg BK223
        have NB224_250 := nA hg BK224
        have NB250_224 := nB hg BK224
        have NB225_250 := nA hg BK225
        have NB250_225 := nB hg BK225
        have NB226_250 := nA hg BK226
        have NB250_226 := nB hg BK226
        have NB238_250 := nA hg BK238
        have NB250_238 := nB hg BK238
        replace BK223 := kB BK223 hb
        replace BK224 := kB BK224 hb
        replace BK225 := kB BK225 hb
        replace BK226 := kB BK226 hb
        replace BK238 := kB BK238 hb
        replace HB := lB hb
        clear hb hbox hg
        refine hK.out _ _ ⟨cA BK223 0, cA BK223 1, cA BK224 0, cA BK224 1, cA BK225 0, cA BK225 1, cA BK226 0, cA BK226 1⟩ (fun hHeld => ?_)
        clear hK K
        refine norm_ (a' := ?_) ?_ ?_
        rotate_left
        ·
         show Act.put _ (some 11) _ = _
         simp only [pA]
         rfl
        exact norm_ (by first | (simp only [putAll, Act.put, List.setIfInBounds_toArray, List.set_cons_zero, List.set_cons_succ]; done) | (simp only [putAll, Act.put, List.setIfInBounds_toArray, List.set_cons_zero, List.set_cons_succ]; rfl)) (hJ1_3_5_7_12 (gb250) _ ⟨hHeld, (bkA BK223), (bkA BK224), (bkA BK225), (bkA BK226), (bkA BK238), (bkA BK250), GW250.out, GE250.out, NB223_250.out, NB250_223.out, NB224_250.out, NB250_224.out, NB225_250.out, NB250_225.out, NB226_250.out, NB250_226.out, NB238_250.out, NB250_238.out, blA⟩)
     ·
      skip
      rintro gb250 w39 ⟨hS_, h0_, h1_, h2_, h3_, h4_, h5_, h6_, h7_, h8_, h9_, h10_, h11_, h12_, h13_, h14_, h15_, h16_, h17_, h18_⟩
      have BK250 := Aside0.mk h5_
      have GW250 := Aside0.mk h6_
      have GE250 := Aside0.mk h7_
      have NB223_250 := Aside0.mk h8_
      have NB250_223 := Aside0.mk h9_
      have NB224_250 := Aside0.mk h10_
      have NB250_224 := Aside0.mk h11_
      have NB225_250 := Aside0.mk h12_
      have NB250_225 := Aside0.mk h13_
      have NB226_250 := Aside0.mk h14_
      have NB250_226 := Aside0.mk h15_
      have NB238_250 := Aside0.mk h16_
      have NB250_238 := Aside0.mk h17_
      replace BK223 := Aside0.mk h0_
      replace BK224 := Aside0.mk h1_
      replace BK225 := Aside0.mk h2_
      replace BK226 := Aside0.mk h3_
      replace BK238 := Aside0.mk h4_
      replace HB := Aside0.mk h18_
      clear h0_ h1_ h2_ h3_ h4_ h5_ h6_ h7_ h8_ h9_ h10_ h11_ h12_ h13_ h14_ h15_ h16_ h17_ h18_
      have hHeld : w39.cell? ⟨gb223, 0, none⟩ = some (.int .i64 a0_0) ∧ w39.cell? ⟨gb223, 1, none⟩ = some (.int .i64 a0_1) ∧ w39.cell? ⟨gb224, 0, none⟩ = some (.int .i64 a1_0) ∧ w39.cell? ⟨gb224, 1, none⟩ = some (.int .i64 a1_1) ∧ w39.cell? ⟨gb225, 0, none⟩ = some (.int .i64 a2_0) ∧ w39.cell? ⟨gb225, 1, none⟩ = some (.int .i64 a2_1) ∧ w39.cell? ⟨gb226, 0, none⟩ = some (.int .i64 a3_0) ∧ w39.cell? ⟨gb226, 1, none⟩ = some (.int .i64 a3_1) := hS_
      refine norm_ (a' := ?_) ?_ ?_
      rotate_left
      ·
       simp only [putAll, Act.put, List.setIfInBounds_toArray, List.set_cons_zero, List.set_cons_succ]
       rfl
      refine one_ (i := 8) (N := some 34) #[Y, Y, Y, Y, Y, Y, Y, Y, Y, Z, Z, Z, Y, Z, Z] rfl rfl (one_of HT_.out (by kernel_rfl)) (by decide) (fun K hK => ?_)
      refine goes_ Try.func6 (by kernel_rfl) rfl #[.agg #[.int .i64 t239, .int .i64 t240], .agg #[.int .i64 t241, .int .i64 t242], .agg #[.int .i64 t243, .int .i64 t244], .agg #[.int .i64 t245, .int .i64 t246]] (by rfl) rfl rfl hA ?_
      with_reducible refine (impl_CrossRatio.calls k t239 t240 t241 t242 t243 t244 t245 t246 t247 t248 t249 _ A14.out).mono ?_
      rintro e w40 ⟨rfl, hb⟩
      refine ⟨_, rfl, ?_⟩
      replace BK223 := kB BK223 hb
      replace BK224 := kB BK224 hb
      replace BK225 := kB BK225 hb
      replace BK226 := kB BK226 hb
      replace BK238 := kB BK238 hb
      replace BK250 := kB BK250 hb
      replace HB := lB hb
      (try clear hb)
      (try clear hb2)
      (try clear hk)
      (try clear hi)
      refine hK.out _ _ ⟨cA BK223 0, cA BK223 1, cA BK224 0, cA BK224 1, cA BK225 0, cA BK225 1, cA BK226 0, cA BK226 1⟩ (fun hHeld => ?_)
      clear hK K
      refine norm_ (a' := ?_) ?_ ?_
      rotate_left
      ·
       show Act.put _ (some 34) _ = _
       simp only [pA]
       rfl
      refine puA (i := 9) (N := some 25) #[Y, Y, Y, Y, Y, Y, Y, Y, Y, Y, Z, Z, Y, Z, Z] rfl rfl HT_ ?_
      refine puA (i := 10) (N := some 35) #[Y, Y, Y, Y, Y, Y, Y, Y, Y, Y, Y, Z, Y, Z, Z] rfl rfl HT_ ?_
      refine puA (i := 11) (N := some 36) #[Y, Y, Y, Y, Y, Y, Y, Y, Y, Y, Y, Y, Y, Z, Z] rfl rfl HT_ ?_
      exact norm_ (by first | (simp only [putAll, Act.put, List.setIfInBounds_toArray, List.set_cons_zero, List.set_cons_succ]; done) | (simp only [putAll, Act.put, List.setIfInBounds_toArray, List.set_cons_zero, List.set_cons_succ]; rfl)) (hJ1_3_5_7_8_12 (gb250) _ ⟨hHeld, (bkA BK223), (bkA BK224), (bkA BK225), (bkA BK226), (bkA BK238), (bkA BK250), GW250.out, GE250.out, NB223_250.out, NB250_223.out, NB224_250.out, NB250_224.out, NB225_250.out, NB250_225.out, NB226_250.out, NB250_226.out, NB238_250.out, NB250_238.out, blA⟩)
    ·
     skip
     rintro _ w39 ⟨hS_, h0_, h1_, h2_, h3_, h4_, h5_⟩
     replace BK223 := Aside0.mk h0_
     replace BK224 := Aside0.mk h1_
     replace BK225 := Aside0.mk h2_
     replace BK226 := Aside0.mk h3_
     replace BK238 := Aside0.mk h4_
     replace HB := Aside0.mk h5_
     clear h0_ h1_ h2_ h3_ h4_ h5_
     have hHeld : w39.cell? ⟨gb223, 0, none⟩ = some (.int .i64 a0_0) ∧ w39.cell? ⟨gb223, 1, none⟩ = some (.int .i64 a0_1) ∧ w39.cell? ⟨gb224, 0, none⟩ = some (.int .i64 a1_0) ∧ w39.cell? ⟨gb224, 1, none⟩ = some (.int .i64 a1_1) ∧ w39.cell? ⟨gb225, 0, none⟩ = some (.int .i64 a2_0) ∧ w39.cell? ⟨gb225, 1, none⟩ = some (.int .i64 a2_1) ∧ w39.cell? ⟨gb226, 0, none⟩ = some (.int .i64 a3_0) ∧ w39.cell? ⟨gb226, 1, none⟩ = some (.int .i64 a3_1) := hS_
     refine norm_ (a' := ?_) ?_ ?_
     rotate_left
     ·
      simp only [putAll, Act.put, List.setIfInBounds_toArray, List.set_cons_zero, List.set_cons_succ]
      rfl
     refine one_ (i := 12) (N := some 11) #[Y, Y, Y, Y, Y, Y, Y, Y, Y, Y, Y, Y, Y, Z, Z] rfl rfl (one_of HT_.out (by kernel_rfl)) (by decide) (fun K hK => ?_)
     refine box_step ?hg (N := 11) ?hd (cs := #[.int .i64 0, .int .i64 0]) (t := 24) ?hr ?_; (case hd => rfl); (case hg => rfl); (case hr => first | (go_simp; done) | (go_simp; rfl))
     intro gb250 hg w40 hbox hb
     have BK250 := Aside0.mk (hbox)
     have GW250 := sA hg
     have GE250 := sA hg
     have NB223_250 := nA hg BK223
     have NB250_223 := nB hg BK223
     have NB224_250 := nA hg BK224
     have NB250_224 := nB hg BK224
     have NB225_250 := nA hg BK225
     have NB250_225 := nB hg BK225
     have NB226_250 := nA hg BK226
     have NB250_226 := nB hg BK226
     have NB238_250 := nA hg BK238
     have NB250_238 := nB hg BK238
     replace BK223 := kB BK223 hb
     replace BK224 := kB BK224 hb
     replace BK225 := kB BK225 hb
     replace BK226 := kB BK226 hb
     replace BK238 := kB BK238 hb
     replace HB := lB hb
     clear hb hbox hg
     refine hK.out _ _ ⟨cA BK223 0, cA BK223 1, cA BK224 0, cA BK224 1, cA BK225 0, cA BK225 1, cA BK226 0, cA BK226 1⟩ (fun hHeld => ?_)
     clear hK K
     refine norm_ (a' := ?_) ?_ ?_
     rotate_left
     ·
      show Act.put _ (some 11) _ = _
      simp only [pA]
      rfl
     exact norm_ (by first | (simp only [putAll, Act.put, List.setIfInBounds_toArray, List.set_cons_zero, List.set_cons_succ]; done) | (simp only [putAll, Act.put, List.setIfInBounds_toArray, List.set_cons_zero, List.set_cons_succ]; rfl)) (hJ1_3_5_7_8_12 (gb250) _ ⟨hHeld, (bkA BK223), (bkA BK224), (bkA BK225), (bkA BK226), (bkA BK238), (bkA BK250), GW250.out, GE250.out, NB223_250.out, NB250_223.out, NB224_250.out, NB250_224.out, NB225_250.out, NB250_225.out, NB226_250.out, NB250_226.out, NB238_250.out, NB250_238.out, blA⟩)
   rintro gb250 w40 ⟨hS_, h0_, h1_, h2_, h3_, h4_, h5_, h6_, h7_, h8_, h9_, h10_, h11_, h12_, h13_, h14_, h15_, h16_, h17_, h18_⟩
   have BK250 := Aside0.mk h5_
   have GW250 := Aside0.mk h6_
   have GE250 := Aside0.mk h7_
   have NB223_250 := Aside0.mk h8_
   have NB250_223 := Aside0.mk h9_
   have NB224_250 := Aside0.mk h10_
   have NB250_224 := Aside0.mk h11_
   have NB225_250 := Aside0.mk h12_
   have NB250_225 := Aside0.mk h13_
   have NB226_250 := Aside0.mk h14_
   have NB250_226 := Aside0.mk h15_
   have NB238_250 := Aside0.mk h16_
   have NB250_238 := Aside0.mk h17_
   replace BK223 := Aside0.mk h0_
   replace BK224 := Aside0.mk h1_
   replace BK225 := Aside0.mk h2_
   replace BK226 := Aside0.mk h3_
   replace BK238 := Aside0.mk h4_
   replace HB := Aside0.mk h18_
   clear h0_ h1_ h2_ h3_ h4_ h5_ h6_ h7_ h8_ h9_ h10_ h11_ h12_ h13_ h14_ h15_ h16_ h17_ h18_
   have hHeld : w40.cell? ⟨gb223, 0, none⟩ = some (.int .i64 a0_0) ∧ w40.cell? ⟨gb223, 1, none⟩ = some (.int .i64 a0_1) ∧ w40.cell? ⟨gb224, 0, none⟩ = some (.int .i64 a1_0) ∧ w40.cell? ⟨gb224, 1, none⟩ = some (.int .i64 a1_1) ∧ w40.cell? ⟨gb225, 0, none⟩ = some (.int .i64 a2_0) ∧ w40.cell? ⟨gb225, 1, none⟩ = some (.int .i64 a2_1) ∧ w40.cell? ⟨gb226, 0, none⟩ = some (.int .i64 a3_0) ∧ w40.cell? ⟨gb226, 1, none⟩ = some (.int .i64 a3_1) := hS_
   refine norm_ (a' := ?_) ?_ ?_
   rotate_left
   ·
    simp only [putAll, Act.put, List.setIfInBounds_toArray, List.set_cons_zero, List.set_cons_succ]
    rfl
   refine one_ (i := 13) (N := none) #[Y, Y, Y, Y, Y, Y, Y, Y, Y, Y, Y, Y, Y, Y, Z] rfl rfl (one_of HT_.out (by kernel_rfl)) (by decide) (fun K hK => ?_)
   have hs41 : w40.cell? ⟨gb250, 0, none⟩ = some (.int .i64 0) := cA BK250 0
   have hfs41 := blk_frozen BK250.out 0
   have hns41_0 := NB223_250.out
   have hns41_1 := NB224_250.out
   have hns41_2 := NB225_250.out
   have hns41_3 := NB226_250.out
   have hns41_4 := NB238_250.out
   have hms41_0 := NB250_223.out
   have hms41_1 := NB250_224.out
   have hms41_2 := NB250_225.out
   have hms41_3 := NB250_226.out
   have hms41_4 := NB250_238.out
   have hs42 : w40.cell? ⟨gb250, 1, none⟩ = some (.int .i64 0) := cA BK250 1
   have hfs42 := blk_frozen BK250.out 1
   have hns42_0 := NB223_250.out
   have hns42_1 := NB224_250.out
   have hns42_2 := NB225_250.out
   have hns42_3 := NB226_250.out
   have hns42_4 := NB238_250.out
   have hms42_0 := NB250_223.out
   have hms42_1 := NB250_224.out
   have hms42_2 := NB250_225.out
   have hms42_3 := NB250_226.out
   have hms42_4 := NB250_238.out
   refine skip_ (w1 := ?_) (by rfl) rfl ?_ ?_
   rotate_left
   ·
    go_simp
    rfl
   refine hK.out _ _ ⟨((cell_far (p := ⟨gb250, _, none⟩) NB223_250.out _).trans (((cell_far (p := ⟨gb250, _, none⟩) NB223_250.out _).trans (hHeld.1)))), ((cell_far (p := ⟨gb250, _, none⟩) NB223_250.out _).trans (((cell_far (p := ⟨gb250, _, none⟩) NB223_250.out _).trans (hHeld.2.1)))), ((cell_far (p := ⟨gb250, _, none⟩) NB224_250.out _).trans (((cell_far (p := ⟨gb250, _, none⟩) NB224_250.out _).trans (hHeld.2.2.1)))), ((cell_far (p := ⟨gb250, _, none⟩) NB224_250.out _).trans (((cell_far (p := ⟨gb250, _, none⟩) NB224_250.out _).trans (hHeld.2.2.2.1)))), ((cell_far (p := ⟨gb250, _, none⟩) NB225_250.out _).trans (((cell_far (p := ⟨gb250, _, none⟩) NB225_250.out _).trans (hHeld.2.2.2.2.1)))), ((cell_far (p := ⟨gb250, _, none⟩) NB225_250.out _).trans (((cell_far (p := ⟨gb250, _, none⟩) NB225_250.out _).trans (hHeld.2.2.2.2.2.1)))), ((cell_far (p := ⟨gb250, _, none⟩) NB226_250.out _).trans (((cell_far (p := ⟨gb250, _, none⟩) NB226_250.out _).trans (hHeld.2.2.2.2.2.2.1)))), ((cell_far (p := ⟨gb250, _, none⟩) NB226_250.out _).trans (((cell_far (p := ⟨gb250, _, none⟩) NB226_250.out _).trans (hHeld.2.2.2.2.2.2.2))))⟩ (fun hHeld => ?_)
   clear hK K
   refine puA (i := 14) (N := some 12) #[Y, Y, Y, Y, Y, Y, Y, Y, Y, Y, Y, Y, Y, Y, Y] rfl rfl HT_ ?_
   refine done_ (done_of HT_.out (by kernel_rfl)) ?_
   have hnb43 := NB250_223.out
   have hnc43 := NB223_250.out
   have hnb44 := NB250_224.out
   have hnc44 := NB224_250.out
   have hnb45 := NB250_225.out
   have hnc45 := NB225_250.out
   have hnb46 := NB250_226.out
   have hnc46 := NB226_250.out
   have hnb47 := NB250_238.out
   have hnc47 := NB238_250.out
   obtain ⟨hcz48_0, hcz48_1, hfz48_0, hfz48_1⟩ := cz2 BK250
   have hnb49 := NB238_223.out
   have hnc49 := NB223_238.out
   have hnb50 := NB238_224.out
   have hnc50 := NB224_238.out
   have hnb51 := NB238_225.out
   have hnc51 := NB225_238.out
   have hnb52 := NB238_226.out
   have hnc52 := NB226_238.out
   obtain ⟨hcz53_0, hcz53_1, hfz53_0, hfz53_1⟩ := cz2 BK238
   try go_wp2_with (first | ((with_reducible refine gate_callee (f := 7) rfl ?_); refine goesL_ (some 39) rfl rfl Try.func7 (by kernel_rfl) rfl #[.agg #[.int .i64 t247, .int .i64 t248], .agg #[.int .i64 t235, .int .i64 t236]] rfl hA ?_; (with_reducible refine (laws_eqEnd.calls t247 t248 t235 t236 true _ A15.out).mono ?_); rintro e w54 ⟨rfl, hb⟩; refine ⟨_, rfl, ?_⟩; have n0_ := Aside0.mk (blk_below (g := gb223) (o := .cells #[.int .i64 a0_0, .int .i64 a0_1] 23 (0, 0)) (bkF BK223) hb); have n1_ := Aside0.mk (blk_below (g := gb224) (o := .cells #[.int .i64 a1_0, .int .i64 a1_1] 23 (0, 0)) (bkF BK224) hb); have n2_ := Aside0.mk (blk_below (g := gb225) (o := .cells #[.int .i64 a2_0, .int .i64 a2_1] 23 (0, 0)) (bkF BK225) hb); have n3_ := Aside0.mk (blk_below (g := gb226) (o := .cells #[.int .i64 a3_0, .int .i64 a3_1] 23 (0, 0)) (bkF BK226) hb); have n4_ := Aside0.mk (blk_below (g := gb238) (o := .cells #[.int .i64 t235, .int .i64 t236] 24 (0, 0)) (bkF BK238) hb); have n5_ := Aside0.mk (blk_below (g := gb250) (o := .cells #[.int .i64 t247, .int .i64 t248] 24 (0, 0)) (by refine dr ?_; refine blk_put (cs := #[.int .i64 t247, .int .i64 0]) ?_ 1 _ rfl; refine dr ?_; refine blk_put (cs := #[.int .i64 0, .int .i64 0]) ?_ 0 _ rfl; exact bkA BK250) hb); have n6_ := lB hb; clear BK223; clear BK224; clear BK225; clear BK226; clear BK238; clear BK250; clear HB; have BK223 := n0_; have BK224 := n1_; have BK225 := n2_; have BK226 := n3_; have BK238 := n4_; have BK250 := n5_; have HB := n6_; clear n0_ n1_ n2_ n3_ n4_ n5_ n6_; (try clear hb); (try clear hb2); (try clear hk); (try clear hi)))
   go_ret
   exact finA blA
  ·
   rw [if_neg c17] at H
   exact absurd H (by simp)
 ·
  replace c16 := Bool.eq_false_iff.mpr c16
  subst c16
  rw [if_neg (show ¬ (false = true) by decide)] at H
  try dsimp only at H
  exact absurd H (by simp)
end Go.Proofs.Ytnejmbhpngdiiaa.PAll
