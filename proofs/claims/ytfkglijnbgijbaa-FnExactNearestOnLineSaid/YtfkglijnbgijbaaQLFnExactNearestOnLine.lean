-- turned for this claim out of the kit's print: the same functions, packed anew
import Derived.Test.YtfkglijnbgijbaaQx
import Derived.Test.YtfkglijnbgijbaaQLeqBall
import Derived.Test.YtfkglijnbgijbaaQimplIsEnd
import Derived.Test.YtfkglijnbgijbaaQimplNearestOnLine
import Derived.Test.YtfkglijnbgijbaaQimplmark
namespace Go.Proofs.Ytfkglijnbgijbaa.PAll
open Go.RowKit Go.Proofs.YtfkglijnbgijbaaW.PrintWords Go.Proofs.YtfkglijnbgijbaaW.PrintLast Go.Proofs.YtfkglijnbgijbaaW.PrintMore
attribute [local go_sem] Go.Proofs.Ytfkglijnbgijbaa.Aux.setCell_drewN Go.Proofs.Ytfkglijnbgijbaa.Aux.isSome_setCell max2_int min2_int max_two min_two max_three min_three max_four min_four   -- for this text's walks alone
set_option linter.unusedVariables false
set_option linter.unusedSimpArgs false
/-! ### laws_FnExactNearestOnLine: function 13 -/
def laws_FnExactNearestOnLine.f (k : Nat) (a0 : Int) (a1_0 : Int) (a1_1 : Int) (a1_2 : Int) (a2_0 : Int) (a2_1 : Int) (a3_0 : Int) (a3_1 : Int) : Option (Bool) := (laws_toBall.f a1_0 a1_1 a1_2).bind fun bt1271 => ((laws_toEnd.f a2_0 a2_1).bind fun bt1274 => ((laws_toEnd.f a3_0 a3_1).bind fun bt1276 => ((spec_NearestOnLine.f k a0 bt1271.1 bt1271.2.1 bt1271.2.2 bt1274.1 bt1274.2 bt1276.1 bt1276.2).bind fun bt1278 => ((laws_toBall.f a1_0 a1_1 a1_2).bind fun bt1283 => ((laws_toEnd.f a2_0 a2_1).bind fun bt1286 => ((laws_toEnd.f a3_0 a3_1).bind fun bt1288 => ((impl_NearestOnLine.f k a0 bt1283.1 bt1283.2.1 bt1283.2.2 bt1286.1 bt1286.2 bt1288.1 bt1288.2).bind fun bt1290 => ((laws_eqBall.f bt1290.1 bt1290.2.1 bt1290.2.2.1 bt1278.1 bt1278.2.1 bt1278.2.2.1).bind fun t1295 => (if t1295 = true then (if bt1290.2.2.2 = bt1278.2.2.2 then (some true) else (none)) else (none))))))))))
theorem laws_FnExactNearestOnLine.mono : ∀ a0 a1 a2 a3 a4 a5 a6 a7 k, LeO (laws_FnExactNearestOnLine.f k a0 a1 a2 a3 a4 a5 a6 a7) (laws_FnExactNearestOnLine.f (k + 1) a0 a1 a2 a3 a4 a5 a6 a7) := by
  intro a0 a1 a2 a3 a4 a5 a6 a7 k
  unfold laws_FnExactNearestOnLine.f
  repeat' first
      | (with_reducible exact impl_NearestOnLine.mono _ _ _ _ _ _ _ _ _)
      | (with_reducible exact spec_NearestOnLine.mono _ _ _ _ _ _ _ _ _)
      | (with_reducible exact LeO.refl _)
      | (with_reducible exact LeO.none _)
      | (with_reducible refine LeO.ite ?_ ?_)
      | (with_reducible refine LeO.bind ?_ (fun _ => ?_))
      | exact impl_NearestOnLine.mono _ _ _ _ _ _ _ _ _
      | exact spec_NearestOnLine.mono _ _ _ _ _ _ _ _ _
      | exact LeO.none _
      | refine LeO.ite ?_ ?_
      | refine LeO.bind ?_ (fun _ => ?_)
def laws_FnExactNearestOnLine.T1 : Bool × List (List Nat × List Nat) := (true, [([], []), ([], []), ([1], [1]), ([], []), ([3, 2], [3]), ([], []), ([5, 4], [5]), ([0, 2, 4, 6, 6], [0, 2, 4, 6]), ([7], [7]), ([8], [8]), ([8], [8]), ([], []), ([11, 9, 7, 0, 1, 2, 3, 4, 5, 6, 7, 8, 9, 11], [9, 11]), ([10, 12, 0, 1, 2, 3, 4, 5, 6, 7, 8, 9, 10, 11, 12], [10])])
def laws_FnExactNearestOnLine.B1 : List Nat := [0, 0, 2, 0, 14, 0, 62, 127, 255, 511, 511, 0, 3071, 8191]
theorem laws_FnExactNearestOnLine.tab1 : rtab .any (opsOf Try.f13 1) = laws_FnExactNearestOnLine.T1 := by kernel_rfl
theorem laws_FnExactNearestOnLine.bits1 : waitsOk laws_FnExactNearestOnLine.T1.2 laws_FnExactNearestOnLine.B1 = true := by kernel_rfl
def laws_FnExactNearestOnLine.T2 : Bool × List (List Nat × List Nat) := (true, [([], []), ([], []), ([1], [1]), ([], []), ([3, 2], [3]), ([], []), ([5, 4], [5]), ([0, 2, 4, 6, 6], [0, 2, 4, 6]), ([7], [7]), ([8], [8]), ([8], [8]), ([], []), ([11, 9, 7, 0, 1, 2, 3, 4, 5, 6, 7, 8, 9, 11], [9, 11]), ([10, 12, 0, 1, 2, 3, 4, 5, 6, 7, 8, 9, 10, 11, 12], [10])])
def laws_FnExactNearestOnLine.B2 : List Nat := [0, 0, 2, 0, 14, 0, 62, 127, 255, 511, 511, 0, 3071, 8191]
theorem laws_FnExactNearestOnLine.tab2 : rtab .any (opsOf Try.f13 2) = laws_FnExactNearestOnLine.T2 := by kernel_rfl
theorem laws_FnExactNearestOnLine.bits2 : waitsOk laws_FnExactNearestOnLine.T2.2 laws_FnExactNearestOnLine.B2 = true := by kernel_rfl
set_option maxHeartbeats 8000000 in
set_option maxRecDepth 100000 in
theorem laws_FnExactNearestOnLine.calls (k : Nat) (a0 : Int) (a1_0 : Int) (a1_1 : Int) (a1_2 : Int) (a2_0 : Int) (a2_1 : Int) (a3_0 : Int) (a3_1 : Int) (r : Bool) (w : World) (h : laws_FnExactNearestOnLine.f k a0 a1_0 a1_1 a1_2 a2_0 a2_1 a3_0 a3_1 = some r) :
    Calls Try.prog 13 #[.int .i64 a0, .agg #[.int .i64 a1_0, .int .i64 a1_1, .int .i64 a1_2], .agg #[.int .i64 a2_0, .int .i64 a2_1], .agg #[.int .i64 a3_0, .int .i64 a3_1]] w fun e w' => e = .returned (.bool r) ∧ Below w.heap.size w w' := by
  have hu31 := Try.underlying31
  have hu23 := Try.underlying23
  have hu34 := Try.underlying34
  have HB := Aside0.mk (Below.refl w.heap.size w)
  have H : ((laws_toBall.f a1_0 a1_1 a1_2).bind fun bt1271 => ((laws_toEnd.f a2_0 a2_1).bind fun bt1274 => ((laws_toEnd.f a3_0 a3_1).bind fun bt1276 => ((spec_NearestOnLine.f k a0 bt1271.1 bt1271.2.1 bt1271.2.2 bt1274.1 bt1274.2 bt1276.1 bt1276.2).bind fun bt1278 => ((laws_toBall.f a1_0 a1_1 a1_2).bind fun bt1283 => ((laws_toEnd.f a2_0 a2_1).bind fun bt1286 => ((laws_toEnd.f a3_0 a3_1).bind fun bt1288 => ((impl_NearestOnLine.f k a0 bt1283.1 bt1283.2.1 bt1283.2.2 bt1286.1 bt1286.2 bt1288.1 bt1288.2).bind fun bt1290 => ((laws_eqBall.f bt1290.1 bt1290.2.1 bt1290.2.2.1 bt1278.1 bt1278.2.1 bt1278.2.2.1).bind fun t1295 => (if t1295 = true then (if bt1290.2.2.2 = bt1278.2.2.2 then (some true) else (none)) else (none))))))))))) = some r := h
  clear h
  replace H := Option.bind_eq_some_iff.mp H
  obtain ⟨⟨t1271, t1272, t1273⟩, A50, H⟩ := H
  replace H : ((laws_toEnd.f a2_0 a2_1).bind fun bt1274 => ((laws_toEnd.f a3_0 a3_1).bind fun bt1276 => ((spec_NearestOnLine.f k a0 t1271 t1272 t1273 bt1274.1 bt1274.2 bt1276.1 bt1276.2).bind fun bt1278 => ((laws_toBall.f a1_0 a1_1 a1_2).bind fun bt1283 => ((laws_toEnd.f a2_0 a2_1).bind fun bt1286 => ((laws_toEnd.f a3_0 a3_1).bind fun bt1288 => ((impl_NearestOnLine.f k a0 bt1283.1 bt1283.2.1 bt1283.2.2 bt1286.1 bt1286.2 bt1288.1 bt1288.2).bind fun bt1290 => ((laws_eqBall.f bt1290.1 bt1290.2.1 bt1290.2.2.1 bt1278.1 bt1278.2.1 bt1278.2.2.1).bind fun t1295 => (if t1295 = true then (if bt1290.2.2.2 = bt1278.2.2.2 then (some true) else (none)) else (none)))))))))) = some r := H
  have A5 := Aside0.mk A50
  clear A50
  replace H := Option.bind_eq_some_iff.mp H
  obtain ⟨⟨t1274, t1275⟩, A60, H⟩ := H
  replace H : ((laws_toEnd.f a3_0 a3_1).bind fun bt1276 => ((spec_NearestOnLine.f k a0 t1271 t1272 t1273 t1274 t1275 bt1276.1 bt1276.2).bind fun bt1278 => ((laws_toBall.f a1_0 a1_1 a1_2).bind fun bt1283 => ((laws_toEnd.f a2_0 a2_1).bind fun bt1286 => ((laws_toEnd.f a3_0 a3_1).bind fun bt1288 => ((impl_NearestOnLine.f k a0 bt1283.1 bt1283.2.1 bt1283.2.2 bt1286.1 bt1286.2 bt1288.1 bt1288.2).bind fun bt1290 => ((laws_eqBall.f bt1290.1 bt1290.2.1 bt1290.2.2.1 bt1278.1 bt1278.2.1 bt1278.2.2.1).bind fun t1295 => (if t1295 = true then (if bt1290.2.2.2 = bt1278.2.2.2 then (some true) else (none)) else (none))))))))) = some r := H
  have A6 := Aside0.mk A60
  clear A60
  replace H := Option.bind_eq_some_iff.mp H
  obtain ⟨⟨t1276, t1277⟩, A70, H⟩ := H
  replace H : ((spec_NearestOnLine.f k a0 t1271 t1272 t1273 t1274 t1275 t1276 t1277).bind fun bt1278 => ((laws_toBall.f a1_0 a1_1 a1_2).bind fun bt1283 => ((laws_toEnd.f a2_0 a2_1).bind fun bt1286 => ((laws_toEnd.f a3_0 a3_1).bind fun bt1288 => ((impl_NearestOnLine.f k a0 bt1283.1 bt1283.2.1 bt1283.2.2 bt1286.1 bt1286.2 bt1288.1 bt1288.2).bind fun bt1290 => ((laws_eqBall.f bt1290.1 bt1290.2.1 bt1290.2.2.1 bt1278.1 bt1278.2.1 bt1278.2.2.1).bind fun t1295 => (if t1295 = true then (if bt1290.2.2.2 = bt1278.2.2.2 then (some true) else (none)) else (none)))))))) = some r := H
  have A7 := Aside0.mk A70
  clear A70
  replace H := Option.bind_eq_some_iff.mp H
  obtain ⟨⟨t1278, t1279, t1280, t1281⟩, A80, H⟩ := H
  replace H : ((laws_toBall.f a1_0 a1_1 a1_2).bind fun bt1283 => ((laws_toEnd.f a2_0 a2_1).bind fun bt1286 => ((laws_toEnd.f a3_0 a3_1).bind fun bt1288 => ((impl_NearestOnLine.f k a0 bt1283.1 bt1283.2.1 bt1283.2.2 bt1286.1 bt1286.2 bt1288.1 bt1288.2).bind fun bt1290 => ((laws_eqBall.f bt1290.1 bt1290.2.1 bt1290.2.2.1 t1278 t1279 t1280).bind fun t1295 => (if t1295 = true then (if bt1290.2.2.2 = t1281 then (some true) else (none)) else (none))))))) = some r := H
  have A8 := Aside0.mk A80
  clear A80
  replace H := Option.bind_eq_some_iff.mp H
  obtain ⟨⟨t1283, t1284, t1285⟩, A90, H⟩ := H
  replace H : ((laws_toEnd.f a2_0 a2_1).bind fun bt1286 => ((laws_toEnd.f a3_0 a3_1).bind fun bt1288 => ((impl_NearestOnLine.f k a0 t1283 t1284 t1285 bt1286.1 bt1286.2 bt1288.1 bt1288.2).bind fun bt1290 => ((laws_eqBall.f bt1290.1 bt1290.2.1 bt1290.2.2.1 t1278 t1279 t1280).bind fun t1295 => (if t1295 = true then (if bt1290.2.2.2 = t1281 then (some true) else (none)) else (none)))))) = some r := H
  have A9 := Aside0.mk A90
  clear A90
  replace H := Option.bind_eq_some_iff.mp H
  obtain ⟨⟨t1286, t1287⟩, A100, H⟩ := H
  replace H : ((laws_toEnd.f a3_0 a3_1).bind fun bt1288 => ((impl_NearestOnLine.f k a0 t1283 t1284 t1285 t1286 t1287 bt1288.1 bt1288.2).bind fun bt1290 => ((laws_eqBall.f bt1290.1 bt1290.2.1 bt1290.2.2.1 t1278 t1279 t1280).bind fun t1295 => (if t1295 = true then (if bt1290.2.2.2 = t1281 then (some true) else (none)) else (none))))) = some r := H
  have A10 := Aside0.mk A100
  clear A100
  replace H := Option.bind_eq_some_iff.mp H
  obtain ⟨⟨t1288, t1289⟩, A110, H⟩ := H
  replace H : ((impl_NearestOnLine.f k a0 t1283 t1284 t1285 t1286 t1287 t1288 t1289).bind fun bt1290 => ((laws_eqBall.f bt1290.1 bt1290.2.1 bt1290.2.2.1 t1278 t1279 t1280).bind fun t1295 => (if t1295 = true then (if bt1290.2.2.2 = t1281 then (some true) else (none)) else (none)))) = some r := H
  have A11 := Aside0.mk A110
  clear A110
  replace H := Option.bind_eq_some_iff.mp H
  obtain ⟨⟨t1290, t1291, t1292, t1293⟩, A120, H⟩ := H
  replace H : ((laws_eqBall.f t1290 t1291 t1292 t1278 t1279 t1280).bind fun t1295 => (if t1295 = true then (if t1293 = t1281 then (some true) else (none)) else (none))) = some r := H
  have A12 := Aside0.mk A120
  clear A120
  replace H := Option.bind_eq_some_iff.mp H
  obtain ⟨t1295, A130, H⟩ := H
  replace H : (if t1295 = true then (if t1293 = t1281 then (some true) else (none)) else (none)) = some r := H
  have A13 := Aside0.mk A130
  clear A130
  by_cases c14 : t1295 = true
  · subst c14
    have H1 : (if t1293 = t1281 then (some true) else (none)) = some r := by rw [if_pos rfl] at H; exact H
    clear H
    have H := H1
    clear H1
    by_cases c15 : t1293 = t1281
    · rw [if_pos c15] at H
      have c15b0 : (t1293 == t1281) = true := beq_iff_eq.mpr c15
      have c15b1 : (t1293 != t1281) = false := bne_eq_false_iff_eq.mpr c15
      clear c15
      obtain rfl := Option.some.inj H
      go_enter Try.func13, Try.ntmps13
      try go_wp2_with (first | ((with_reducible refine gate_dst (N := 5) rfl ?_); refine box_event ?hg (N := 5) ?hd (cs := #[.int .i64 a1_0, .int .i64 a1_1, .int .i64 a1_2]) (t := 31) ?hr ?_; (case hd => rfl); (case hg => rfl); (case hr => first | (go_simp; done) | (go_simp; rfl)); intro gb1268 hg w16 hbox hb; have n0_ := Aside0.mk (below_step blA hb); have n1_ := Aside0.mk (hbox); have n2_ := Aside0.mk (szA hg blA); have n3_ := Aside0.mk (szA hg blA); clear HB; have HB := n0_; have BK1268 := n1_; have GW1268 := n2_; have GE1268 := n3_; clear n0_ n1_ n2_ n3_; clear hb hbox hg) | ((with_reducible refine gate_dst (N := 6) rfl ?_); refine box_event ?hg (N := 6) ?hd (cs := #[.int .i64 a2_0, .int .i64 a2_1]) (t := 23) ?hr ?_; (case hd => rfl); (case hg => rfl); (case hr => first | (go_simp; done) | (go_simp; rfl)); intro gb1269 hg w17 hbox hb; have n0_ := Aside0.mk (blk_below (bkA BK1268) hb); have n1_ := Aside0.mk (below_step blA hb); have n2_ := Aside0.mk (hbox); have n3_ := Aside0.mk (szA hg blA); have n4_ := Aside0.mk (szA hg blA); have n5_ := Aside0.mk (neA hg (bkA BK1268)); have n6_ := Aside0.mk (neB hg (bkA BK1268)); clear BK1268; clear HB; have BK1268 := n0_; have HB := n1_; have BK1269 := n2_; have GW1269 := n3_; have GE1269 := n4_; have NB1268_1269 := n5_; have NB1269_1268 := n6_; clear n0_ n1_ n2_ n3_ n4_ n5_ n6_; clear hb hbox hg) | ((with_reducible refine gate_dst (N := 7) rfl ?_); refine box_event ?hg (N := 7) ?hd (cs := #[.int .i64 a3_0, .int .i64 a3_1]) (t := 23) ?hr ?_; (case hd => rfl); (case hg => rfl); (case hr => first | (go_simp; done) | (go_simp; rfl)); intro gb1270 hg w18 hbox hb; have n0_ := Aside0.mk (blk_below (bkA BK1268) hb); have n1_ := Aside0.mk (blk_below (bkA BK1269) hb); have n2_ := Aside0.mk (below_step blA hb); have n3_ := Aside0.mk (hbox); have n4_ := Aside0.mk (szA hg blA); have n5_ := Aside0.mk (szA hg blA); have n6_ := Aside0.mk (neA hg (bkA BK1268)); have n7_ := Aside0.mk (neB hg (bkA BK1268)); have n8_ := Aside0.mk (neA hg (bkA BK1269)); have n9_ := Aside0.mk (neB hg (bkA BK1269)); clear BK1268; clear BK1269; clear HB; have BK1268 := n0_; have BK1269 := n1_; have HB := n2_; have BK1270 := n3_; have GW1270 := n4_; have GE1270 := n5_; have NB1268_1270 := n6_; have NB1270_1268 := n7_; have NB1269_1270 := n8_; have NB1270_1269 := n9_; clear n0_ n1_ n2_ n3_ n4_ n5_ n6_ n7_ n8_ n9_; clear hb hbox hg))
      have n0_ := Aside0.mk (blk_drew BK1268.out)
      have n1_ := Aside0.mk (blk_drew BK1269.out)
      have n2_ := Aside0.mk (blk_drew BK1270.out)
      have n3_ := Aside0.mk (below_drew1 HB.out)
      clear BK1268
      clear BK1269
      clear BK1270
      clear HB
      have BK1268 := n0_
      have BK1269 := n1_
      have BK1270 := n2_
      have HB := n3_
      clear n0_ n1_ n2_ n3_
      refine start_ (n := 14) (S := fun w' => w'.cell? ⟨gb1268, 0, none⟩ = some (.int .i64 a1_0) ∧ w'.cell? ⟨gb1268, 1, none⟩ = some (.int .i64 a1_1) ∧ w'.cell? ⟨gb1268, 2, none⟩ = some (.int .i64 a1_2) ∧ w'.cell? ⟨gb1269, 0, none⟩ = some (.int .i64 a2_0) ∧ w'.cell? ⟨gb1269, 1, none⟩ = some (.int .i64 a2_1) ∧ w'.cell? ⟨gb1270, 0, none⟩ = some (.int .i64 a3_0) ∧ w'.cell? ⟨gb1270, 1, none⟩ = some (.int .i64 a3_1)) (ds := []) #[false, false, false, false, false, false, false, false, false, false, false, false, false, false] (by kernel_rfl) rfl rfl ⟨(blk_cell BK1268.out 0).trans rfl, (blk_cell BK1268.out 1).trans rfl, (blk_cell BK1268.out 2).trans rfl, (blk_cell BK1269.out 0).trans rfl, (blk_cell BK1269.out 1).trans rfl, (blk_cell BK1270.out 0).trans rfl, (blk_cell BK1270.out 1).trans rfl⟩ (fun hHeld => ?_); refine with_tabW laws_FnExactNearestOnLine.tab1 laws_FnExactNearestOnLine.bits1 (fun HT_ HW_ => ?_)
      generalize w18.drew = w19 at BK1268 BK1269 BK1270 HB hHeld ⊢
      refine pure_ (i := 0) (N := some 14) (v := ?_) (a' := ?_) #[true, false, false, false, false, false, false, false, false, false, false, false, false, false] rfl rfl (any_of HT_.out (by kernel_rfl)) (fun _ _ _ h => h) (Or.inl ⟨by rfl, ?_⟩) ?_ ?_
      rotate_left
      · intro w'
        go_simp
        with_reducible rfl
      rotate_left
      · simp only [Act.put, List.setIfInBounds_toArray, List.set_cons_zero, List.set_cons_succ, i64_w, i32_w]
        rfl
      refine take_ (i := 1) (N := some 15) (v := ?_) (a' := ?_) #[true, true, false, false, false, false, false, false, false, false, false, false, false, false] rfl rfl (take_ofW HT_.out HW_.out (by kernel_rfl)) (fun _ _ _ h => h) (Or.inl ⟨by rfl, ?_⟩) hHeld ?_ ?_
      rotate_left
      · rintro w' ⟨s0, s1, s2, s3, s4, s5, s6⟩
        go_simp
        with_reducible rfl
      rotate_left
      · simp only [Act.put, List.setIfInBounds_toArray, List.set_cons_zero, List.set_cons_succ, i64_w, i32_w]
        rfl
      refine take_ (i := 3) (N := some 17) (v := ?_) (a' := ?_) #[true, true, false, true, false, false, false, false, false, false, false, false, false, false] rfl rfl (take_ofW HT_.out HW_.out (by kernel_rfl)) (fun _ _ _ h => h) (Or.inl ⟨by rfl, ?_⟩) hHeld ?_ ?_
      rotate_left
      · rintro w' ⟨s0, s1, s2, s3, s4, s5, s6⟩
        go_simp
        with_reducible rfl
      rotate_left
      · simp only [Act.put, List.setIfInBounds_toArray, List.set_cons_zero, List.set_cons_succ, i64_w, i32_w]
        rfl
      refine take_ (i := 5) (N := some 19) (v := ?_) (a' := ?_) #[true, true, false, true, false, true, false, false, false, false, false, false, false, false] rfl rfl (take_ofW HT_.out HW_.out (by kernel_rfl)) (fun _ _ _ h => h) (Or.inl ⟨by rfl, ?_⟩) hHeld ?_ ?_
      rotate_left
      · rintro w' ⟨s0, s1, s2, s3, s4, s5, s6⟩
        go_simp
        with_reducible rfl
      rotate_left
      · simp only [Act.put, List.setIfInBounds_toArray, List.set_cons_zero, List.set_cons_succ, i64_w, i32_w]
        rfl
      refine join_ (σ := Nat) 2 #[true, true, true, true, true, true, true, true, true, true, true, true, false, false] (fun s_ => [(16, .agg #[.int .i64 t1271, .int .i64 t1272, .int .i64 t1273]), (18, .agg #[.int .i64 t1274, .int .i64 t1275]), (20, .agg #[.int .i64 t1276, .int .i64 t1277]), (21, .tuple #[.agg #[.int .i64 t1278, .int .i64 t1279, .int .i64 t1280], .int .i64 t1281]), (9, .pointer (some ⟨s_, 0, none⟩)), (13, .tuple #[.agg #[.int .i64 t1278, .int .i64 t1279, .int .i64 t1280], .int .i64 t1281]), (22, .agg #[.int .i64 t1278, .int .i64 t1279, .int .i64 t1280]), (23, .int .i64 t1281)]) (fun s_ w' => (w'.cell? ⟨gb1268, 0, none⟩ = some (.int .i64 a1_0) ∧ w'.cell? ⟨gb1268, 1, none⟩ = some (.int .i64 a1_1) ∧ w'.cell? ⟨gb1268, 2, none⟩ = some (.int .i64 a1_2) ∧ w'.cell? ⟨gb1269, 0, none⟩ = some (.int .i64 a2_0) ∧ w'.cell? ⟨gb1269, 1, none⟩ = some (.int .i64 a2_1) ∧ w'.cell? ⟨gb1270, 0, none⟩ = some (.int .i64 a3_0) ∧ w'.cell? ⟨gb1270, 1, none⟩ = some (.int .i64 a3_1)) ∧ (w'.heap[gb1268]? = some (.cells #[.int .i64 a1_0, .int .i64 a1_1, .int .i64 a1_2] 31 (0, 0))) ∧ (w'.heap[gb1269]? = some (.cells #[.int .i64 a2_0, .int .i64 a2_1] 23 (0, 0))) ∧ (w'.heap[gb1270]? = some (.cells #[.int .i64 a3_0, .int .i64 a3_1] 23 (0, 0))) ∧ (w'.heap[s_]? = some (.cells #[.int .i64 0, .int .i64 0, .int .i64 0] 34 (0, 0))) ∧ (w.heap.size ≤ s_) ∧ (w.heap.size ≤ s_) ∧ (gb1268 ≠ s_) ∧ (s_ ≠ gb1268) ∧ (gb1269 ≠ s_) ∧ (s_ ≠ gb1269) ∧ (gb1270 ≠ s_) ∧ (s_ ≠ gb1270) ∧ (Below w.heap.size w w')) ?_ ?_
      rotate_left
      · intro hJ2_4_6_7_11
        refine join_ (σ := Unit) 3 #[true, true, true, true, true, true, true, true, true, true, true, false, false, false] (fun s_ => [(16, .agg #[.int .i64 t1271, .int .i64 t1272, .int .i64 t1273]), (18, .agg #[.int .i64 t1274, .int .i64 t1275]), (20, .agg #[.int .i64 t1276, .int .i64 t1277]), (21, .tuple #[.agg #[.int .i64 t1278, .int .i64 t1279, .int .i64 t1280], .int .i64 t1281]), (13, .tuple #[.agg #[.int .i64 t1278, .int .i64 t1279, .int .i64 t1280], .int .i64 t1281]), (22, .agg #[.int .i64 t1278, .int .i64 t1279, .int .i64 t1280]), (23, .int .i64 t1281)]) (fun s_ w' => (w'.cell? ⟨gb1268, 0, none⟩ = some (.int .i64 a1_0) ∧ w'.cell? ⟨gb1268, 1, none⟩ = some (.int .i64 a1_1) ∧ w'.cell? ⟨gb1268, 2, none⟩ = some (.int .i64 a1_2) ∧ w'.cell? ⟨gb1269, 0, none⟩ = some (.int .i64 a2_0) ∧ w'.cell? ⟨gb1269, 1, none⟩ = some (.int .i64 a2_1) ∧ w'.cell? ⟨gb1270, 0, none⟩ = some (.int .i64 a3_0) ∧ w'.cell? ⟨gb1270, 1, none⟩ = some (.int .i64 a3_1)) ∧ (w'.heap[gb1268]? = some (.cells #[.int .i64 a1_0, .int .i64 a1_1, .int .i64 a1_2] 31 (0, 0))) ∧ (w'.heap[gb1269]? = some (.cells #[.int .i64 a2_0, .int .i64 a2_1] 23 (0, 0))) ∧ (w'.heap[gb1270]? = some (.cells #[.int .i64 a3_0, .int .i64 a3_1] 23 (0, 0))) ∧ (Below w.heap.size w w')) ?_ ?_
        rotate_left
        · intro hJ2_4_6_7
          refine join_ (σ := Nat) 6 #[true, true, true, true, true, true, true, false, false, false, false, true, false, false] (fun s_ => [(16, .agg #[.int .i64 t1271, .int .i64 t1272, .int .i64 t1273]), (18, .agg #[.int .i64 t1274, .int .i64 t1275]), (20, .agg #[.int .i64 t1276, .int .i64 t1277]), (9, .pointer (some ⟨s_, 0, none⟩))]) (fun s_ w' => (w'.cell? ⟨gb1268, 0, none⟩ = some (.int .i64 a1_0) ∧ w'.cell? ⟨gb1268, 1, none⟩ = some (.int .i64 a1_1) ∧ w'.cell? ⟨gb1268, 2, none⟩ = some (.int .i64 a1_2) ∧ w'.cell? ⟨gb1269, 0, none⟩ = some (.int .i64 a2_0) ∧ w'.cell? ⟨gb1269, 1, none⟩ = some (.int .i64 a2_1) ∧ w'.cell? ⟨gb1270, 0, none⟩ = some (.int .i64 a3_0) ∧ w'.cell? ⟨gb1270, 1, none⟩ = some (.int .i64 a3_1)) ∧ (w'.heap[gb1268]? = some (.cells #[.int .i64 a1_0, .int .i64 a1_1, .int .i64 a1_2] 31 (0, 0))) ∧ (w'.heap[gb1269]? = some (.cells #[.int .i64 a2_0, .int .i64 a2_1] 23 (0, 0))) ∧ (w'.heap[gb1270]? = some (.cells #[.int .i64 a3_0, .int .i64 a3_1] 23 (0, 0))) ∧ (w'.heap[s_]? = some (.cells #[.int .i64 0, .int .i64 0, .int .i64 0] 34 (0, 0))) ∧ (w.heap.size ≤ s_) ∧ (w.heap.size ≤ s_) ∧ (gb1268 ≠ s_) ∧ (s_ ≠ gb1268) ∧ (gb1269 ≠ s_) ∧ (s_ ≠ gb1269) ∧ (gb1270 ≠ s_) ∧ (s_ ≠ gb1270) ∧ (Below w.heap.size w w')) ?_ ?_
          rotate_left
          · intro hJ2_4_6_11
            refine join_ (σ := Unit) 7 #[true, true, true, true, true, true, true, false, false, false, false, false, false, false] (fun s_ => [(16, .agg #[.int .i64 t1271, .int .i64 t1272, .int .i64 t1273]), (18, .agg #[.int .i64 t1274, .int .i64 t1275]), (20, .agg #[.int .i64 t1276, .int .i64 t1277])]) (fun s_ w' => (w'.cell? ⟨gb1268, 0, none⟩ = some (.int .i64 a1_0) ∧ w'.cell? ⟨gb1268, 1, none⟩ = some (.int .i64 a1_1) ∧ w'.cell? ⟨gb1268, 2, none⟩ = some (.int .i64 a1_2) ∧ w'.cell? ⟨gb1269, 0, none⟩ = some (.int .i64 a2_0) ∧ w'.cell? ⟨gb1269, 1, none⟩ = some (.int .i64 a2_1) ∧ w'.cell? ⟨gb1270, 0, none⟩ = some (.int .i64 a3_0) ∧ w'.cell? ⟨gb1270, 1, none⟩ = some (.int .i64 a3_1)) ∧ (w'.heap[gb1268]? = some (.cells #[.int .i64 a1_0, .int .i64 a1_1, .int .i64 a1_2] 31 (0, 0))) ∧ (w'.heap[gb1269]? = some (.cells #[.int .i64 a2_0, .int .i64 a2_1] 23 (0, 0))) ∧ (w'.heap[gb1270]? = some (.cells #[.int .i64 a3_0, .int .i64 a3_1] 23 (0, 0))) ∧ (Below w.heap.size w w')) ?_ ?_
            rotate_left
            · intro hJ2_4_6
              refine join_ (σ := Nat) 7 #[true, true, true, true, true, true, false, false, false, false, false, true, false, false] (fun s_ => [(16, .agg #[.int .i64 t1271, .int .i64 t1272, .int .i64 t1273]), (18, .agg #[.int .i64 t1274, .int .i64 t1275]), (9, .pointer (some ⟨s_, 0, none⟩))]) (fun s_ w' => (w'.cell? ⟨gb1268, 0, none⟩ = some (.int .i64 a1_0) ∧ w'.cell? ⟨gb1268, 1, none⟩ = some (.int .i64 a1_1) ∧ w'.cell? ⟨gb1268, 2, none⟩ = some (.int .i64 a1_2) ∧ w'.cell? ⟨gb1269, 0, none⟩ = some (.int .i64 a2_0) ∧ w'.cell? ⟨gb1269, 1, none⟩ = some (.int .i64 a2_1) ∧ w'.cell? ⟨gb1270, 0, none⟩ = some (.int .i64 a3_0) ∧ w'.cell? ⟨gb1270, 1, none⟩ = some (.int .i64 a3_1)) ∧ (w'.heap[gb1268]? = some (.cells #[.int .i64 a1_0, .int .i64 a1_1, .int .i64 a1_2] 31 (0, 0))) ∧ (w'.heap[gb1269]? = some (.cells #[.int .i64 a2_0, .int .i64 a2_1] 23 (0, 0))) ∧ (w'.heap[gb1270]? = some (.cells #[.int .i64 a3_0, .int .i64 a3_1] 23 (0, 0))) ∧ (w'.heap[s_]? = some (.cells #[.int .i64 0, .int .i64 0, .int .i64 0] 34 (0, 0))) ∧ (w.heap.size ≤ s_) ∧ (w.heap.size ≤ s_) ∧ (gb1268 ≠ s_) ∧ (s_ ≠ gb1268) ∧ (gb1269 ≠ s_) ∧ (s_ ≠ gb1269) ∧ (gb1270 ≠ s_) ∧ (s_ ≠ gb1270) ∧ (Below w.heap.size w w')) ?_ ?_
              rotate_left
              · intro hJ2_4_11
                refine join_ (σ := Unit) 8 #[true, true, true, true, true, true, false, false, false, false, false, false, false, false] (fun s_ => [(16, .agg #[.int .i64 t1271, .int .i64 t1272, .int .i64 t1273]), (18, .agg #[.int .i64 t1274, .int .i64 t1275])]) (fun s_ w' => (w'.cell? ⟨gb1268, 0, none⟩ = some (.int .i64 a1_0) ∧ w'.cell? ⟨gb1268, 1, none⟩ = some (.int .i64 a1_1) ∧ w'.cell? ⟨gb1268, 2, none⟩ = some (.int .i64 a1_2) ∧ w'.cell? ⟨gb1269, 0, none⟩ = some (.int .i64 a2_0) ∧ w'.cell? ⟨gb1269, 1, none⟩ = some (.int .i64 a2_1) ∧ w'.cell? ⟨gb1270, 0, none⟩ = some (.int .i64 a3_0) ∧ w'.cell? ⟨gb1270, 1, none⟩ = some (.int .i64 a3_1)) ∧ (w'.heap[gb1268]? = some (.cells #[.int .i64 a1_0, .int .i64 a1_1, .int .i64 a1_2] 31 (0, 0))) ∧ (w'.heap[gb1269]? = some (.cells #[.int .i64 a2_0, .int .i64 a2_1] 23 (0, 0))) ∧ (w'.heap[gb1270]? = some (.cells #[.int .i64 a3_0, .int .i64 a3_1] 23 (0, 0))) ∧ (Below w.heap.size w w')) ?_ ?_
                rotate_left
                · intro hJ2_4
                  refine join_ (σ := Nat) 8 #[true, true, true, true, false, true, false, false, false, false, false, true, false, false] (fun s_ => [(16, .agg #[.int .i64 t1271, .int .i64 t1272, .int .i64 t1273]), (9, .pointer (some ⟨s_, 0, none⟩))]) (fun s_ w' => (w'.cell? ⟨gb1268, 0, none⟩ = some (.int .i64 a1_0) ∧ w'.cell? ⟨gb1268, 1, none⟩ = some (.int .i64 a1_1) ∧ w'.cell? ⟨gb1268, 2, none⟩ = some (.int .i64 a1_2) ∧ w'.cell? ⟨gb1269, 0, none⟩ = some (.int .i64 a2_0) ∧ w'.cell? ⟨gb1269, 1, none⟩ = some (.int .i64 a2_1) ∧ w'.cell? ⟨gb1270, 0, none⟩ = some (.int .i64 a3_0) ∧ w'.cell? ⟨gb1270, 1, none⟩ = some (.int .i64 a3_1)) ∧ (w'.heap[gb1268]? = some (.cells #[.int .i64 a1_0, .int .i64 a1_1, .int .i64 a1_2] 31 (0, 0))) ∧ (w'.heap[gb1269]? = some (.cells #[.int .i64 a2_0, .int .i64 a2_1] 23 (0, 0))) ∧ (w'.heap[gb1270]? = some (.cells #[.int .i64 a3_0, .int .i64 a3_1] 23 (0, 0))) ∧ (w'.heap[s_]? = some (.cells #[.int .i64 0, .int .i64 0, .int .i64 0] 34 (0, 0))) ∧ (w.heap.size ≤ s_) ∧ (w.heap.size ≤ s_) ∧ (gb1268 ≠ s_) ∧ (s_ ≠ gb1268) ∧ (gb1269 ≠ s_) ∧ (s_ ≠ gb1269) ∧ (gb1270 ≠ s_) ∧ (s_ ≠ gb1270) ∧ (Below w.heap.size w w')) ?_ ?_
                  rotate_left
                  · intro hJ2_11
                    refine join_ (σ := Unit) 9 #[true, true, true, true, false, true, false, false, false, false, false, false, false, false] (fun s_ => [(16, .agg #[.int .i64 t1271, .int .i64 t1272, .int .i64 t1273])]) (fun s_ w' => (w'.cell? ⟨gb1268, 0, none⟩ = some (.int .i64 a1_0) ∧ w'.cell? ⟨gb1268, 1, none⟩ = some (.int .i64 a1_1) ∧ w'.cell? ⟨gb1268, 2, none⟩ = some (.int .i64 a1_2) ∧ w'.cell? ⟨gb1269, 0, none⟩ = some (.int .i64 a2_0) ∧ w'.cell? ⟨gb1269, 1, none⟩ = some (.int .i64 a2_1) ∧ w'.cell? ⟨gb1270, 0, none⟩ = some (.int .i64 a3_0) ∧ w'.cell? ⟨gb1270, 1, none⟩ = some (.int .i64 a3_1)) ∧ (w'.heap[gb1268]? = some (.cells #[.int .i64 a1_0, .int .i64 a1_1, .int .i64 a1_2] 31 (0, 0))) ∧ (w'.heap[gb1269]? = some (.cells #[.int .i64 a2_0, .int .i64 a2_1] 23 (0, 0))) ∧ (w'.heap[gb1270]? = some (.cells #[.int .i64 a3_0, .int .i64 a3_1] 23 (0, 0))) ∧ (Below w.heap.size w w')) ?_ ?_
                    rotate_left
                    · intro hJ2
                      refine join_ (σ := Nat) 9 #[true, true, false, true, false, true, false, false, false, false, false, true, false, false] (fun s_ => [(9, .pointer (some ⟨s_, 0, none⟩))]) (fun s_ w' => (w'.cell? ⟨gb1268, 0, none⟩ = some (.int .i64 a1_0) ∧ w'.cell? ⟨gb1268, 1, none⟩ = some (.int .i64 a1_1) ∧ w'.cell? ⟨gb1268, 2, none⟩ = some (.int .i64 a1_2) ∧ w'.cell? ⟨gb1269, 0, none⟩ = some (.int .i64 a2_0) ∧ w'.cell? ⟨gb1269, 1, none⟩ = some (.int .i64 a2_1) ∧ w'.cell? ⟨gb1270, 0, none⟩ = some (.int .i64 a3_0) ∧ w'.cell? ⟨gb1270, 1, none⟩ = some (.int .i64 a3_1)) ∧ (w'.heap[gb1268]? = some (.cells #[.int .i64 a1_0, .int .i64 a1_1, .int .i64 a1_2] 31 (0, 0))) ∧ (w'.heap[gb1269]? = some (.cells #[.int .i64 a2_0, .int .i64 a2_1] 23 (0, 0))) ∧ (w'.heap[gb1270]? = some (.cells #[.int .i64 a3_0, .int .i64 a3_1] 23 (0, 0))) ∧ (w'.heap[s_]? = some (.cells #[.int .i64 0, .int .i64 0, .int .i64 0] 34 (0, 0))) ∧ (w.heap.size ≤ s_) ∧ (w.heap.size ≤ s_) ∧ (gb1268 ≠ s_) ∧ (s_ ≠ gb1268) ∧ (gb1269 ≠ s_) ∧ (s_ ≠ gb1269) ∧ (gb1270 ≠ s_) ∧ (s_ ≠ gb1270) ∧ (Below w.heap.size w w')) ?_ ?_
                      rotate_left
                      · intro hJ11
                        refine two_ (i := 2) (j := 11) (Ni := some 16) (Nj := some 9) #[true, true, true, true, false, true, false, false, false, false, false, false, false, false] #[true, true, false, true, false, true, false, false, false, false, false, true, false, false] rfl rfl rfl rfl (two_of HT_.out (by kernel_rfl)) (by decide) (by decide) (fun K hK => ?_) (fun K hK => ?_)
                        · skip
                          refine goes_ Try.func20 (by kernel_rfl) rfl #[.agg #[.int .i64 a1_0, .int .i64 a1_1, .int .i64 a1_2]] (by rfl) rfl rfl (by (try simp only [List.map_toArray, List.map_cons, List.map_nil]); first | done | rfl | (simp only [List.length_drop, List.length_take]; rfl)) ?_
                          with_reducible refine (laws_toBall.calls a1_0 a1_1 a1_2 t1271 t1272 t1273 _ A5.out).mono ?_
                          rintro e w20 ⟨rfl, hb⟩
                          refine ⟨_, rfl, ?_⟩
                          have n0_ := Aside0.mk (blk_below (bkA BK1268) hb)
                          have n1_ := Aside0.mk (blk_below (bkA BK1269) hb)
                          have n2_ := Aside0.mk (blk_below (bkA BK1270) hb)
                          have n3_ := Aside0.mk (below_step blA hb)
                          clear BK1268
                          clear BK1269
                          clear BK1270
                          clear HB
                          have BK1268 := n0_
                          have BK1269 := n1_
                          have BK1270 := n2_
                          have HB := n3_
                          clear n0_ n1_ n2_ n3_
                          (try clear hb)
                          (try clear hb2)
                          (try clear hk)
                          (try clear hi)
                          refine hK.out _ _ ⟨(blk_cell BK1268.out 0).trans rfl, (blk_cell BK1268.out 1).trans rfl, (blk_cell BK1268.out 2).trans rfl, (blk_cell BK1269.out 0).trans rfl, (blk_cell BK1269.out 1).trans rfl, (blk_cell BK1270.out 0).trans rfl, (blk_cell BK1270.out 1).trans rfl⟩ (fun hHeld => ?_)
                          clear hK K
                          refine norm_ (a' := ?_) ?_ ?_
                          rotate_left
                          · show Act.put _ (some 16) _ = _
                            simp only [Act.put, List.setIfInBounds_toArray, List.set_cons_zero, List.set_cons_succ, i64_w, i32_w]
                            rfl
                          exact norm_ (by first | (simp only [putAll, Act.put, List.setIfInBounds_toArray, List.set_cons_zero, List.set_cons_succ]; done) | (simp only [putAll, Act.put, List.setIfInBounds_toArray, List.set_cons_zero, List.set_cons_succ]; rfl)) (hJ2 () _ ⟨hHeld, (bkA BK1268), (bkA BK1269), (bkA BK1270), blA⟩)
                        · skip
                          refine box_step ?hg (N := 9) ?hd (cs := #[.int .i64 0, .int .i64 0, .int .i64 0]) (t := 34) ?hr ?_; (case hd => rfl); (case hg => rfl); (case hr => first | (go_simp; done) | (go_simp; rfl))
                          intro gb1282 hg w20 hbox hb
                          have n0_ := Aside0.mk (blk_below (bkA BK1268) hb)
                          have n1_ := Aside0.mk (blk_below (bkA BK1269) hb)
                          have n2_ := Aside0.mk (blk_below (bkA BK1270) hb)
                          have n3_ := Aside0.mk (below_step blA hb)
                          have n4_ := Aside0.mk (hbox)
                          have n5_ := Aside0.mk (szA hg blA)
                          have n6_ := Aside0.mk (szA hg blA)
                          have n7_ := Aside0.mk (neA hg (bkA BK1268))
                          have n8_ := Aside0.mk (neB hg (bkA BK1268))
                          have n9_ := Aside0.mk (neA hg (bkA BK1269))
                          have n10_ := Aside0.mk (neB hg (bkA BK1269))
                          have n11_ := Aside0.mk (neA hg (bkA BK1270))
                          have n12_ := Aside0.mk (neB hg (bkA BK1270))
                          clear BK1268
                          clear BK1269
                          clear BK1270
                          clear HB
                          have BK1268 := n0_
                          have BK1269 := n1_
                          have BK1270 := n2_
                          have HB := n3_
                          have BK1282 := n4_
                          have GW1282 := n5_
                          have GE1282 := n6_
                          have NB1268_1282 := n7_
                          have NB1282_1268 := n8_
                          have NB1269_1282 := n9_
                          have NB1282_1269 := n10_
                          have NB1270_1282 := n11_
                          have NB1282_1270 := n12_
                          clear n0_ n1_ n2_ n3_ n4_ n5_ n6_ n7_ n8_ n9_ n10_ n11_ n12_
                          clear hb hbox hg
                          refine hK.out _ _ ⟨(blk_cell BK1268.out 0).trans rfl, (blk_cell BK1268.out 1).trans rfl, (blk_cell BK1268.out 2).trans rfl, (blk_cell BK1269.out 0).trans rfl, (blk_cell BK1269.out 1).trans rfl, (blk_cell BK1270.out 0).trans rfl, (blk_cell BK1270.out 1).trans rfl⟩ (fun hHeld => ?_)
                          clear hK K
                          refine norm_ (a' := ?_) ?_ ?_
                          rotate_left
                          · show Act.put _ (some 9) _ = _
                            simp only [Act.put, List.setIfInBounds_toArray, List.set_cons_zero, List.set_cons_succ, i64_w, i32_w]
                            rfl
                          exact norm_ (by first | (simp only [putAll, Act.put, List.setIfInBounds_toArray, List.set_cons_zero, List.set_cons_succ]; done) | (simp only [putAll, Act.put, List.setIfInBounds_toArray, List.set_cons_zero, List.set_cons_succ]; rfl)) (hJ11 (gb1282) _ ⟨hHeld, (bkA BK1268), (bkA BK1269), (bkA BK1270), (bkA BK1282), GW1282.out, GE1282.out, NB1268_1282.out, NB1282_1268.out, NB1269_1282.out, NB1282_1269.out, NB1270_1282.out, NB1282_1270.out, blA⟩)
                      · skip
                        rintro gb1282 w21 ⟨hS_, h0_, h1_, h2_, h3_, h4_, h5_, h6_, h7_, h8_, h9_, h10_, h11_, h12_⟩
                        have n0_ : Aside0 (w21.heap[gb1268]? = some (.cells #[.int .i64 a1_0, .int .i64 a1_1, .int .i64 a1_2] 31 (0, 0))) := ⟨h0_⟩
                        have n1_ : Aside0 (w21.heap[gb1269]? = some (.cells #[.int .i64 a2_0, .int .i64 a2_1] 23 (0, 0))) := ⟨h1_⟩
                        have n2_ : Aside0 (w21.heap[gb1270]? = some (.cells #[.int .i64 a3_0, .int .i64 a3_1] 23 (0, 0))) := ⟨h2_⟩
                        have n3_ : Aside0 (w21.heap[gb1282]? = some (.cells #[.int .i64 0, .int .i64 0, .int .i64 0] 34 (0, 0))) := ⟨h3_⟩
                        have n4_ : Aside0 (w.heap.size ≤ gb1282) := ⟨h4_⟩
                        have n5_ : Aside0 (w.heap.size ≤ gb1282) := ⟨h5_⟩
                        have n6_ : Aside0 (gb1268 ≠ gb1282) := ⟨h6_⟩
                        have n7_ : Aside0 (gb1282 ≠ gb1268) := ⟨h7_⟩
                        have n8_ : Aside0 (gb1269 ≠ gb1282) := ⟨h8_⟩
                        have n9_ : Aside0 (gb1282 ≠ gb1269) := ⟨h9_⟩
                        have n10_ : Aside0 (gb1270 ≠ gb1282) := ⟨h10_⟩
                        have n11_ : Aside0 (gb1282 ≠ gb1270) := ⟨h11_⟩
                        have n12_ : Aside0 (Below w.heap.size w w21) := ⟨h12_⟩
                        clear BK1268
                        clear BK1269
                        clear BK1270
                        clear HB
                        clear h0_ h1_ h2_ h3_ h4_ h5_ h6_ h7_ h8_ h9_ h10_ h11_ h12_
                        have BK1268 := n0_
                        have BK1269 := n1_
                        have BK1270 := n2_
                        have BK1282 := n3_
                        have GW1282 := n4_
                        have GE1282 := n5_
                        have NB1268_1282 := n6_
                        have NB1282_1268 := n7_
                        have NB1269_1282 := n8_
                        have NB1282_1269 := n9_
                        have NB1270_1282 := n10_
                        have NB1282_1270 := n11_
                        have HB := n12_
                        clear n0_ n1_ n2_ n3_ n4_ n5_ n6_ n7_ n8_ n9_ n10_ n11_ n12_
                        have hHeld : w21.cell? ⟨gb1268, 0, none⟩ = some (.int .i64 a1_0) ∧ w21.cell? ⟨gb1268, 1, none⟩ = some (.int .i64 a1_1) ∧ w21.cell? ⟨gb1268, 2, none⟩ = some (.int .i64 a1_2) ∧ w21.cell? ⟨gb1269, 0, none⟩ = some (.int .i64 a2_0) ∧ w21.cell? ⟨gb1269, 1, none⟩ = some (.int .i64 a2_1) ∧ w21.cell? ⟨gb1270, 0, none⟩ = some (.int .i64 a3_0) ∧ w21.cell? ⟨gb1270, 1, none⟩ = some (.int .i64 a3_1) := hS_
                        refine norm_ (a' := ?_) ?_ ?_
                        rotate_left
                        · simp only [putAll, Act.put, List.setIfInBounds_toArray, List.set_cons_zero, List.set_cons_succ]
                          rfl
                        refine one_ (i := 2) (N := some 16) #[true, true, true, true, false, true, false, false, false, false, false, true, false, false] rfl rfl (one_of HT_.out (by kernel_rfl)) (by decide) (fun K hK => ?_)
                        refine goes_ Try.func20 (by kernel_rfl) rfl #[.agg #[.int .i64 a1_0, .int .i64 a1_1, .int .i64 a1_2]] (by rfl) rfl rfl (by (try simp only [List.map_toArray, List.map_cons, List.map_nil]); first | done | rfl | (simp only [List.length_drop, List.length_take]; rfl)) ?_
                        with_reducible refine (laws_toBall.calls a1_0 a1_1 a1_2 t1271 t1272 t1273 _ A5.out).mono ?_
                        rintro e w22 ⟨rfl, hb⟩
                        refine ⟨_, rfl, ?_⟩
                        have n0_ := Aside0.mk (blk_below (bkA BK1268) hb)
                        have n1_ := Aside0.mk (blk_below (bkA BK1269) hb)
                        have n2_ := Aside0.mk (blk_below (bkA BK1270) hb)
                        have n3_ := Aside0.mk (blk_below (bkA BK1282) hb)
                        have n4_ := Aside0.mk (below_step blA hb)
                        clear BK1268
                        clear BK1269
                        clear BK1270
                        clear BK1282
                        clear HB
                        have BK1268 := n0_
                        have BK1269 := n1_
                        have BK1270 := n2_
                        have BK1282 := n3_
                        have HB := n4_
                        clear n0_ n1_ n2_ n3_ n4_
                        (try clear hb)
                        (try clear hb2)
                        (try clear hk)
                        (try clear hi)
                        refine hK.out _ _ ⟨(blk_cell BK1268.out 0).trans rfl, (blk_cell BK1268.out 1).trans rfl, (blk_cell BK1268.out 2).trans rfl, (blk_cell BK1269.out 0).trans rfl, (blk_cell BK1269.out 1).trans rfl, (blk_cell BK1270.out 0).trans rfl, (blk_cell BK1270.out 1).trans rfl⟩ (fun hHeld => ?_)
                        clear hK K
                        refine norm_ (a' := ?_) ?_ ?_
                        rotate_left
                        · show Act.put _ (some 16) _ = _
                          simp only [Act.put, List.setIfInBounds_toArray, List.set_cons_zero, List.set_cons_succ, i64_w, i32_w]
                          rfl
                        exact norm_ (by first | (simp only [putAll, Act.put, List.setIfInBounds_toArray, List.set_cons_zero, List.set_cons_succ]; done) | (simp only [putAll, Act.put, List.setIfInBounds_toArray, List.set_cons_zero, List.set_cons_succ]; rfl)) (hJ2_11 (gb1282) _ ⟨hHeld, (bkA BK1268), (bkA BK1269), (bkA BK1270), (bkA BK1282), GW1282.out, GE1282.out, NB1268_1282.out, NB1282_1268.out, NB1269_1282.out, NB1282_1269.out, NB1270_1282.out, NB1282_1270.out, blA⟩)
                    · skip
                      rintro _ w21 ⟨hS_, h0_, h1_, h2_, h3_⟩
                      have n0_ : Aside0 (w21.heap[gb1268]? = some (.cells #[.int .i64 a1_0, .int .i64 a1_1, .int .i64 a1_2] 31 (0, 0))) := ⟨h0_⟩
                      have n1_ : Aside0 (w21.heap[gb1269]? = some (.cells #[.int .i64 a2_0, .int .i64 a2_1] 23 (0, 0))) := ⟨h1_⟩
                      have n2_ : Aside0 (w21.heap[gb1270]? = some (.cells #[.int .i64 a3_0, .int .i64 a3_1] 23 (0, 0))) := ⟨h2_⟩
                      have n3_ : Aside0 (Below w.heap.size w w21) := ⟨h3_⟩
                      clear BK1268
                      clear BK1269
                      clear BK1270
                      clear HB
                      clear h0_ h1_ h2_ h3_
                      have BK1268 := n0_
                      have BK1269 := n1_
                      have BK1270 := n2_
                      have HB := n3_
                      clear n0_ n1_ n2_ n3_
                      have hHeld : w21.cell? ⟨gb1268, 0, none⟩ = some (.int .i64 a1_0) ∧ w21.cell? ⟨gb1268, 1, none⟩ = some (.int .i64 a1_1) ∧ w21.cell? ⟨gb1268, 2, none⟩ = some (.int .i64 a1_2) ∧ w21.cell? ⟨gb1269, 0, none⟩ = some (.int .i64 a2_0) ∧ w21.cell? ⟨gb1269, 1, none⟩ = some (.int .i64 a2_1) ∧ w21.cell? ⟨gb1270, 0, none⟩ = some (.int .i64 a3_0) ∧ w21.cell? ⟨gb1270, 1, none⟩ = some (.int .i64 a3_1) := hS_
                      refine norm_ (a' := ?_) ?_ ?_
                      rotate_left
                      · simp only [putAll, Act.put, List.setIfInBounds_toArray, List.set_cons_zero, List.set_cons_succ]
                        rfl
                      refine two_ (i := 4) (j := 11) (Ni := some 18) (Nj := some 9) #[true, true, true, true, true, true, false, false, false, false, false, false, false, false] #[true, true, true, true, false, true, false, false, false, false, false, true, false, false] rfl rfl rfl rfl (two_of HT_.out (by kernel_rfl)) (by decide) (by decide) (fun K hK => ?_) (fun K hK => ?_)
                      · skip
                        refine goes_ Try.func16 (by kernel_rfl) rfl #[.agg #[.int .i64 a2_0, .int .i64 a2_1]] (by rfl) rfl rfl (by (try simp only [List.map_toArray, List.map_cons, List.map_nil]); first | done | rfl | (simp only [List.length_drop, List.length_take]; rfl)) ?_
                        with_reducible refine (laws_toEnd.calls a2_0 a2_1 t1274 t1275 _ A6.out).mono ?_
                        rintro e w22 ⟨rfl, hb⟩
                        refine ⟨_, rfl, ?_⟩
                        have n0_ := Aside0.mk (blk_below (bkA BK1268) hb)
                        have n1_ := Aside0.mk (blk_below (bkA BK1269) hb)
                        have n2_ := Aside0.mk (blk_below (bkA BK1270) hb)
                        have n3_ := Aside0.mk (below_step blA hb)
                        clear BK1268
                        clear BK1269
                        clear BK1270
                        clear HB
                        have BK1268 := n0_
                        have BK1269 := n1_
                        have BK1270 := n2_
                        have HB := n3_
                        clear n0_ n1_ n2_ n3_
                        (try clear hb)
                        (try clear hb2)
                        (try clear hk)
                        (try clear hi)
                        refine hK.out _ _ ⟨(blk_cell BK1268.out 0).trans rfl, (blk_cell BK1268.out 1).trans rfl, (blk_cell BK1268.out 2).trans rfl, (blk_cell BK1269.out 0).trans rfl, (blk_cell BK1269.out 1).trans rfl, (blk_cell BK1270.out 0).trans rfl, (blk_cell BK1270.out 1).trans rfl⟩ (fun hHeld => ?_)
                        clear hK K
                        refine norm_ (a' := ?_) ?_ ?_
                        rotate_left
                        · show Act.put _ (some 18) _ = _
                          simp only [Act.put, List.setIfInBounds_toArray, List.set_cons_zero, List.set_cons_succ, i64_w, i32_w]
                          rfl
                        exact norm_ (by first | (simp only [putAll, Act.put, List.setIfInBounds_toArray, List.set_cons_zero, List.set_cons_succ]; done) | (simp only [putAll, Act.put, List.setIfInBounds_toArray, List.set_cons_zero, List.set_cons_succ]; rfl)) (hJ2_4 () _ ⟨hHeld, (bkA BK1268), (bkA BK1269), (bkA BK1270), blA⟩)
                      · skip
                        refine box_step ?hg (N := 9) ?hd (cs := #[.int .i64 0, .int .i64 0, .int .i64 0]) (t := 34) ?hr ?_; (case hd => rfl); (case hg => rfl); (case hr => first | (go_simp; done) | (go_simp; rfl))
                        intro gb1282 hg w22 hbox hb
                        have n0_ := Aside0.mk (blk_below (bkA BK1268) hb)
                        have n1_ := Aside0.mk (blk_below (bkA BK1269) hb)
                        have n2_ := Aside0.mk (blk_below (bkA BK1270) hb)
                        have n3_ := Aside0.mk (below_step blA hb)
                        have n4_ := Aside0.mk (hbox)
                        have n5_ := Aside0.mk (szA hg blA)
                        have n6_ := Aside0.mk (szA hg blA)
                        have n7_ := Aside0.mk (neA hg (bkA BK1268))
                        have n8_ := Aside0.mk (neB hg (bkA BK1268))
                        have n9_ := Aside0.mk (neA hg (bkA BK1269))
                        have n10_ := Aside0.mk (neB hg (bkA BK1269))
                        have n11_ := Aside0.mk (neA hg (bkA BK1270))
                        have n12_ := Aside0.mk (neB hg (bkA BK1270))
                        clear BK1268
                        clear BK1269
                        clear BK1270
                        clear HB
                        have BK1268 := n0_
                        have BK1269 := n1_
                        have BK1270 := n2_
                        have HB := n3_
                        have BK1282 := n4_
                        have GW1282 := n5_
                        have GE1282 := n6_
                        have NB1268_1282 := n7_
                        have NB1282_1268 := n8_
                        have NB1269_1282 := n9_
                        have NB1282_1269 := n10_
                        have NB1270_1282 := n11_
                        have NB1282_1270 := n12_
                        clear n0_ n1_ n2_ n3_ n4_ n5_ n6_ n7_ n8_ n9_ n10_ n11_ n12_
                        clear hb hbox hg
                        refine hK.out _ _ ⟨(blk_cell BK1268.out 0).trans rfl, (blk_cell BK1268.out 1).trans rfl, (blk_cell BK1268.out 2).trans rfl, (blk_cell BK1269.out 0).trans rfl, (blk_cell BK1269.out 1).trans rfl, (blk_cell BK1270.out 0).trans rfl, (blk_cell BK1270.out 1).trans rfl⟩ (fun hHeld => ?_)
                        clear hK K
                        refine norm_ (a' := ?_) ?_ ?_
                        rotate_left
                        · show Act.put _ (some 9) _ = _
                          simp only [Act.put, List.setIfInBounds_toArray, List.set_cons_zero, List.set_cons_succ, i64_w, i32_w]
                          rfl
                        exact norm_ (by first | (simp only [putAll, Act.put, List.setIfInBounds_toArray, List.set_cons_zero, List.set_cons_succ]; done) | (simp only [putAll, Act.put, List.setIfInBounds_toArray, List.set_cons_zero, List.set_cons_succ]; rfl)) (hJ2_11 (gb1282) _ ⟨hHeld, (bkA BK1268), (bkA BK1269), (bkA BK1270), (bkA BK1282), GW1282.out, GE1282.out, NB1268_1282.out, NB1282_1268.out, NB1269_1282.out, NB1282_1269.out, NB1270_1282.out, NB1282_1270.out, blA⟩)
                  · skip
                    rintro gb1282 w22 ⟨hS_, h0_, h1_, h2_, h3_, h4_, h5_, h6_, h7_, h8_, h9_, h10_, h11_, h12_⟩
                    have n0_ : Aside0 (w22.heap[gb1268]? = some (.cells #[.int .i64 a1_0, .int .i64 a1_1, .int .i64 a1_2] 31 (0, 0))) := ⟨h0_⟩
                    have n1_ : Aside0 (w22.heap[gb1269]? = some (.cells #[.int .i64 a2_0, .int .i64 a2_1] 23 (0, 0))) := ⟨h1_⟩
                    have n2_ : Aside0 (w22.heap[gb1270]? = some (.cells #[.int .i64 a3_0, .int .i64 a3_1] 23 (0, 0))) := ⟨h2_⟩
                    have n3_ : Aside0 (w22.heap[gb1282]? = some (.cells #[.int .i64 0, .int .i64 0, .int .i64 0] 34 (0, 0))) := ⟨h3_⟩
                    have n4_ : Aside0 (w.heap.size ≤ gb1282) := ⟨h4_⟩
                    have n5_ : Aside0 (w.heap.size ≤ gb1282) := ⟨h5_⟩
                    have n6_ : Aside0 (gb1268 ≠ gb1282) := ⟨h6_⟩
                    have n7_ : Aside0 (gb1282 ≠ gb1268) := ⟨h7_⟩
                    have n8_ : Aside0 (gb1269 ≠ gb1282) := ⟨h8_⟩
                    have n9_ : Aside0 (gb1282 ≠ gb1269) := ⟨h9_⟩
                    have n10_ : Aside0 (gb1270 ≠ gb1282) := ⟨h10_⟩
                    have n11_ : Aside0 (gb1282 ≠ gb1270) := ⟨h11_⟩
                    have n12_ : Aside0 (Below w.heap.size w w22) := ⟨h12_⟩
                    clear BK1268
                    clear BK1269
                    clear BK1270
                    clear HB
                    clear h0_ h1_ h2_ h3_ h4_ h5_ h6_ h7_ h8_ h9_ h10_ h11_ h12_
                    have BK1268 := n0_
                    have BK1269 := n1_
                    have BK1270 := n2_
                    have BK1282 := n3_
                    have GW1282 := n4_
                    have GE1282 := n5_
                    have NB1268_1282 := n6_
                    have NB1282_1268 := n7_
                    have NB1269_1282 := n8_
                    have NB1282_1269 := n9_
                    have NB1270_1282 := n10_
                    have NB1282_1270 := n11_
                    have HB := n12_
                    clear n0_ n1_ n2_ n3_ n4_ n5_ n6_ n7_ n8_ n9_ n10_ n11_ n12_
                    have hHeld : w22.cell? ⟨gb1268, 0, none⟩ = some (.int .i64 a1_0) ∧ w22.cell? ⟨gb1268, 1, none⟩ = some (.int .i64 a1_1) ∧ w22.cell? ⟨gb1268, 2, none⟩ = some (.int .i64 a1_2) ∧ w22.cell? ⟨gb1269, 0, none⟩ = some (.int .i64 a2_0) ∧ w22.cell? ⟨gb1269, 1, none⟩ = some (.int .i64 a2_1) ∧ w22.cell? ⟨gb1270, 0, none⟩ = some (.int .i64 a3_0) ∧ w22.cell? ⟨gb1270, 1, none⟩ = some (.int .i64 a3_1) := hS_
                    refine norm_ (a' := ?_) ?_ ?_
                    rotate_left
                    · simp only [putAll, Act.put, List.setIfInBounds_toArray, List.set_cons_zero, List.set_cons_succ]
                      rfl
                    refine one_ (i := 4) (N := some 18) #[true, true, true, true, true, true, false, false, false, false, false, true, false, false] rfl rfl (one_of HT_.out (by kernel_rfl)) (by decide) (fun K hK => ?_)
                    refine goes_ Try.func16 (by kernel_rfl) rfl #[.agg #[.int .i64 a2_0, .int .i64 a2_1]] (by rfl) rfl rfl (by (try simp only [List.map_toArray, List.map_cons, List.map_nil]); first | done | rfl | (simp only [List.length_drop, List.length_take]; rfl)) ?_
                    with_reducible refine (laws_toEnd.calls a2_0 a2_1 t1274 t1275 _ A6.out).mono ?_
                    rintro e w23 ⟨rfl, hb⟩
                    refine ⟨_, rfl, ?_⟩
                    have n0_ := Aside0.mk (blk_below (bkA BK1268) hb)
                    have n1_ := Aside0.mk (blk_below (bkA BK1269) hb)
                    have n2_ := Aside0.mk (blk_below (bkA BK1270) hb)
                    have n3_ := Aside0.mk (blk_below (bkA BK1282) hb)
                    have n4_ := Aside0.mk (below_step blA hb)
                    clear BK1268
                    clear BK1269
                    clear BK1270
                    clear BK1282
                    clear HB
                    have BK1268 := n0_
                    have BK1269 := n1_
                    have BK1270 := n2_
                    have BK1282 := n3_
                    have HB := n4_
                    clear n0_ n1_ n2_ n3_ n4_
                    (try clear hb)
                    (try clear hb2)
                    (try clear hk)
                    (try clear hi)
                    refine hK.out _ _ ⟨(blk_cell BK1268.out 0).trans rfl, (blk_cell BK1268.out 1).trans rfl, (blk_cell BK1268.out 2).trans rfl, (blk_cell BK1269.out 0).trans rfl, (blk_cell BK1269.out 1).trans rfl, (blk_cell BK1270.out 0).trans rfl, (blk_cell BK1270.out 1).trans rfl⟩ (fun hHeld => ?_)
                    clear hK K
                    refine norm_ (a' := ?_) ?_ ?_
                    rotate_left
                    · show Act.put _ (some 18) _ = _
                      simp only [Act.put, List.setIfInBounds_toArray, List.set_cons_zero, List.set_cons_succ, i64_w, i32_w]
                      rfl
                    exact norm_ (by first | (simp only [putAll, Act.put, List.setIfInBounds_toArray, List.set_cons_zero, List.set_cons_succ]; done) | (simp only [putAll, Act.put, List.setIfInBounds_toArray, List.set_cons_zero, List.set_cons_succ]; rfl)) (hJ2_4_11 (gb1282) _ ⟨hHeld, (bkA BK1268), (bkA BK1269), (bkA BK1270), (bkA BK1282), GW1282.out, GE1282.out, NB1268_1282.out, NB1282_1268.out, NB1269_1282.out, NB1282_1269.out, NB1270_1282.out, NB1282_1270.out, blA⟩)
                · skip
                  rintro _ w22 ⟨hS_, h0_, h1_, h2_, h3_⟩
                  have n0_ : Aside0 (w22.heap[gb1268]? = some (.cells #[.int .i64 a1_0, .int .i64 a1_1, .int .i64 a1_2] 31 (0, 0))) := ⟨h0_⟩
                  have n1_ : Aside0 (w22.heap[gb1269]? = some (.cells #[.int .i64 a2_0, .int .i64 a2_1] 23 (0, 0))) := ⟨h1_⟩
                  have n2_ : Aside0 (w22.heap[gb1270]? = some (.cells #[.int .i64 a3_0, .int .i64 a3_1] 23 (0, 0))) := ⟨h2_⟩
                  have n3_ : Aside0 (Below w.heap.size w w22) := ⟨h3_⟩
                  clear BK1268
                  clear BK1269
                  clear BK1270
                  clear HB
                  clear h0_ h1_ h2_ h3_
                  have BK1268 := n0_
                  have BK1269 := n1_
                  have BK1270 := n2_
                  have HB := n3_
                  clear n0_ n1_ n2_ n3_
                  have hHeld : w22.cell? ⟨gb1268, 0, none⟩ = some (.int .i64 a1_0) ∧ w22.cell? ⟨gb1268, 1, none⟩ = some (.int .i64 a1_1) ∧ w22.cell? ⟨gb1268, 2, none⟩ = some (.int .i64 a1_2) ∧ w22.cell? ⟨gb1269, 0, none⟩ = some (.int .i64 a2_0) ∧ w22.cell? ⟨gb1269, 1, none⟩ = some (.int .i64 a2_1) ∧ w22.cell? ⟨gb1270, 0, none⟩ = some (.int .i64 a3_0) ∧ w22.cell? ⟨gb1270, 1, none⟩ = some (.int .i64 a3_1) := hS_
                  refine norm_ (a' := ?_) ?_ ?_
                  rotate_left
                  · simp only [putAll, Act.put, List.setIfInBounds_toArray, List.set_cons_zero, List.set_cons_succ]
                    rfl
                  refine two_ (i := 6) (j := 11) (Ni := some 20) (Nj := some 9) #[true, true, true, true, true, true, true, false, false, false, false, false, false, false] #[true, true, true, true, true, true, false, false, false, false, false, true, false, false] rfl rfl rfl rfl (two_of HT_.out (by kernel_rfl)) (by decide) (by decide) (fun K hK => ?_) (fun K hK => ?_)
                  · skip
                    refine goes_ Try.func16 (by kernel_rfl) rfl #[.agg #[.int .i64 a3_0, .int .i64 a3_1]] (by rfl) rfl rfl (by (try simp only [List.map_toArray, List.map_cons, List.map_nil]); first | done | rfl | (simp only [List.length_drop, List.length_take]; rfl)) ?_
                    with_reducible refine (laws_toEnd.calls a3_0 a3_1 t1276 t1277 _ A7.out).mono ?_
                    rintro e w23 ⟨rfl, hb⟩
                    refine ⟨_, rfl, ?_⟩
                    have n0_ := Aside0.mk (blk_below (bkA BK1268) hb)
                    have n1_ := Aside0.mk (blk_below (bkA BK1269) hb)
                    have n2_ := Aside0.mk (blk_below (bkA BK1270) hb)
                    have n3_ := Aside0.mk (below_step blA hb)
                    clear BK1268
                    clear BK1269
                    clear BK1270
                    clear HB
                    have BK1268 := n0_
                    have BK1269 := n1_
                    have BK1270 := n2_
                    have HB := n3_
                    clear n0_ n1_ n2_ n3_
                    (try clear hb)
                    (try clear hb2)
                    (try clear hk)
                    (try clear hi)
                    refine hK.out _ _ ⟨(blk_cell BK1268.out 0).trans rfl, (blk_cell BK1268.out 1).trans rfl, (blk_cell BK1268.out 2).trans rfl, (blk_cell BK1269.out 0).trans rfl, (blk_cell BK1269.out 1).trans rfl, (blk_cell BK1270.out 0).trans rfl, (blk_cell BK1270.out 1).trans rfl⟩ (fun hHeld => ?_)
                    clear hK K
                    refine norm_ (a' := ?_) ?_ ?_
                    rotate_left
                    · show Act.put _ (some 20) _ = _
                      simp only [Act.put, List.setIfInBounds_toArray, List.set_cons_zero, List.set_cons_succ, i64_w, i32_w]
                      rfl
                    exact norm_ (by first | (simp only [putAll, Act.put, List.setIfInBounds_toArray, List.set_cons_zero, List.set_cons_succ]; done) | (simp only [putAll, Act.put, List.setIfInBounds_toArray, List.set_cons_zero, List.set_cons_succ]; rfl)) (hJ2_4_6 () _ ⟨hHeld, (bkA BK1268), (bkA BK1269), (bkA BK1270), blA⟩)
                  · skip
                    refine box_step ?hg (N := 9) ?hd (cs := #[.int .i64 0, .int .i64 0, .int .i64 0]) (t := 34) ?hr ?_; (case hd => rfl); (case hg => rfl); (case hr => first | (go_simp; done) | (go_simp; rfl))
                    intro gb1282 hg w23 hbox hb
                    have n0_ := Aside0.mk (blk_below (bkA BK1268) hb)
                    have n1_ := Aside0.mk (blk_below (bkA BK1269) hb)
                    have n2_ := Aside0.mk (blk_below (bkA BK1270) hb)
                    have n3_ := Aside0.mk (below_step blA hb)
                    have n4_ := Aside0.mk (hbox)
                    have n5_ := Aside0.mk (szA hg blA)
                    have n6_ := Aside0.mk (szA hg blA)
                    have n7_ := Aside0.mk (neA hg (bkA BK1268))
                    have n8_ := Aside0.mk (neB hg (bkA BK1268))
                    have n9_ := Aside0.mk (neA hg (bkA BK1269))
                    have n10_ := Aside0.mk (neB hg (bkA BK1269))
                    have n11_ := Aside0.mk (neA hg (bkA BK1270))
                    have n12_ := Aside0.mk (neB hg (bkA BK1270))
                    clear BK1268
                    clear BK1269
                    clear BK1270
                    clear HB
                    have BK1268 := n0_
                    have BK1269 := n1_
                    have BK1270 := n2_
                    have HB := n3_
                    have BK1282 := n4_
                    have GW1282 := n5_
                    have GE1282 := n6_
                    have NB1268_1282 := n7_
                    have NB1282_1268 := n8_
                    have NB1269_1282 := n9_
                    have NB1282_1269 := n10_
                    have NB1270_1282 := n11_
                    have NB1282_1270 := n12_
                    clear n0_ n1_ n2_ n3_ n4_ n5_ n6_ n7_ n8_ n9_ n10_ n11_ n12_
                    clear hb hbox hg
                    refine hK.out _ _ ⟨(blk_cell BK1268.out 0).trans rfl, (blk_cell BK1268.out 1).trans rfl, (blk_cell BK1268.out 2).trans rfl, (blk_cell BK1269.out 0).trans rfl, (blk_cell BK1269.out 1).trans rfl, (blk_cell BK1270.out 0).trans rfl, (blk_cell BK1270.out 1).trans rfl⟩ (fun hHeld => ?_)
                    clear hK K
                    refine norm_ (a' := ?_) ?_ ?_
                    rotate_left
                    · show Act.put _ (some 9) _ = _
                      simp only [Act.put, List.setIfInBounds_toArray, List.set_cons_zero, List.set_cons_succ, i64_w, i32_w]
                      rfl
                    exact norm_ (by first | (simp only [putAll, Act.put, List.setIfInBounds_toArray, List.set_cons_zero, List.set_cons_succ]; done) | (simp only [putAll, Act.put, List.setIfInBounds_toArray, List.set_cons_zero, List.set_cons_succ]; rfl)) (hJ2_4_11 (gb1282) _ ⟨hHeld, (bkA BK1268), (bkA BK1269), (bkA BK1270), (bkA BK1282), GW1282.out, GE1282.out, NB1268_1282.out, NB1282_1268.out, NB1269_1282.out, NB1282_1269.out, NB1270_1282.out, NB1282_1270.out, blA⟩)
              · skip
                rintro gb1282 w23 ⟨hS_, h0_, h1_, h2_, h3_, h4_, h5_, h6_, h7_, h8_, h9_, h10_, h11_, h12_⟩
                have n0_ : Aside0 (w23.heap[gb1268]? = some (.cells #[.int .i64 a1_0, .int .i64 a1_1, .int .i64 a1_2] 31 (0, 0))) := ⟨h0_⟩
                have n1_ : Aside0 (w23.heap[gb1269]? = some (.cells #[.int .i64 a2_0, .int .i64 a2_1] 23 (0, 0))) := ⟨h1_⟩
                have n2_ : Aside0 (w23.heap[gb1270]? = some (.cells #[.int .i64 a3_0, .int .i64 a3_1] 23 (0, 0))) := ⟨h2_⟩
                have n3_ : Aside0 (w23.heap[gb1282]? = some (.cells #[.int .i64 0, .int .i64 0, .int .i64 0] 34 (0, 0))) := ⟨h3_⟩
                have n4_ : Aside0 (w.heap.size ≤ gb1282) := ⟨h4_⟩
                have n5_ : Aside0 (w.heap.size ≤ gb1282) := ⟨h5_⟩
                have n6_ : Aside0 (gb1268 ≠ gb1282) := ⟨h6_⟩
                have n7_ : Aside0 (gb1282 ≠ gb1268) := ⟨h7_⟩
                have n8_ : Aside0 (gb1269 ≠ gb1282) := ⟨h8_⟩
                have n9_ : Aside0 (gb1282 ≠ gb1269) := ⟨h9_⟩
                have n10_ : Aside0 (gb1270 ≠ gb1282) := ⟨h10_⟩
                have n11_ : Aside0 (gb1282 ≠ gb1270) := ⟨h11_⟩
                have n12_ : Aside0 (Below w.heap.size w w23) := ⟨h12_⟩
                clear BK1268
                clear BK1269
                clear BK1270
                clear HB
                clear h0_ h1_ h2_ h3_ h4_ h5_ h6_ h7_ h8_ h9_ h10_ h11_ h12_
                have BK1268 := n0_
                have BK1269 := n1_
                have BK1270 := n2_
                have BK1282 := n3_
                have GW1282 := n4_
                have GE1282 := n5_
                have NB1268_1282 := n6_
                have NB1282_1268 := n7_
                have NB1269_1282 := n8_
                have NB1282_1269 := n9_
                have NB1270_1282 := n10_
                have NB1282_1270 := n11_
                have HB := n12_
                clear n0_ n1_ n2_ n3_ n4_ n5_ n6_ n7_ n8_ n9_ n10_ n11_ n12_
                have hHeld : w23.cell? ⟨gb1268, 0, none⟩ = some (.int .i64 a1_0) ∧ w23.cell? ⟨gb1268, 1, none⟩ = some (.int .i64 a1_1) ∧ w23.cell? ⟨gb1268, 2, none⟩ = some (.int .i64 a1_2) ∧ w23.cell? ⟨gb1269, 0, none⟩ = some (.int .i64 a2_0) ∧ w23.cell? ⟨gb1269, 1, none⟩ = some (.int .i64 a2_1) ∧ w23.cell? ⟨gb1270, 0, none⟩ = some (.int .i64 a3_0) ∧ w23.cell? ⟨gb1270, 1, none⟩ = some (.int .i64 a3_1) := hS_
                refine norm_ (a' := ?_) ?_ ?_
                rotate_left
                · simp only [putAll, Act.put, List.setIfInBounds_toArray, List.set_cons_zero, List.set_cons_succ]
                  rfl
                refine one_ (i := 6) (N := some 20) #[true, true, true, true, true, true, true, false, false, false, false, true, false, false] rfl rfl (one_of HT_.out (by kernel_rfl)) (by decide) (fun K hK => ?_)
                refine goes_ Try.func16 (by kernel_rfl) rfl #[.agg #[.int .i64 a3_0, .int .i64 a3_1]] (by rfl) rfl rfl (by (try simp only [List.map_toArray, List.map_cons, List.map_nil]); first | done | rfl | (simp only [List.length_drop, List.length_take]; rfl)) ?_
                with_reducible refine (laws_toEnd.calls a3_0 a3_1 t1276 t1277 _ A7.out).mono ?_
                rintro e w24 ⟨rfl, hb⟩
                refine ⟨_, rfl, ?_⟩
                have n0_ := Aside0.mk (blk_below (bkA BK1268) hb)
                have n1_ := Aside0.mk (blk_below (bkA BK1269) hb)
                have n2_ := Aside0.mk (blk_below (bkA BK1270) hb)
                have n3_ := Aside0.mk (blk_below (bkA BK1282) hb)
                have n4_ := Aside0.mk (below_step blA hb)
                clear BK1268
                clear BK1269
                clear BK1270
                clear BK1282
                clear HB
                have BK1268 := n0_
                have BK1269 := n1_
                have BK1270 := n2_
                have BK1282 := n3_
                have HB := n4_
                clear n0_ n1_ n2_ n3_ n4_
                (try clear hb)
                (try clear hb2)
                (try clear hk)
                (try clear hi)
                refine hK.out _ _ ⟨(blk_cell BK1268.out 0).trans rfl, (blk_cell BK1268.out 1).trans rfl, (blk_cell BK1268.out 2).trans rfl, (blk_cell BK1269.out 0).trans rfl, (blk_cell BK1269.out 1).trans rfl, (blk_cell BK1270.out 0).trans rfl, (blk_cell BK1270.out 1).trans rfl⟩ (fun hHeld => ?_)
                clear hK K
                refine norm_ (a' := ?_) ?_ ?_
                rotate_left
                · show Act.put _ (some 20) _ = _
                  simp only [Act.put, List.setIfInBounds_toArray, List.set_cons_zero, List.set_cons_succ, i64_w, i32_w]
                  rfl
                exact norm_ (by first | (simp only [putAll, Act.put, List.setIfInBounds_toArray, List.set_cons_zero, List.set_cons_succ]; done) | (simp only [putAll, Act.put, List.setIfInBounds_toArray, List.set_cons_zero, List.set_cons_succ]; rfl)) (hJ2_4_6_11 (gb1282) _ ⟨hHeld, (bkA BK1268), (bkA BK1269), (bkA BK1270), (bkA BK1282), GW1282.out, GE1282.out, NB1268_1282.out, NB1282_1268.out, NB1269_1282.out, NB1282_1269.out, NB1270_1282.out, NB1282_1270.out, blA⟩)
            · skip
              rintro _ w23 ⟨hS_, h0_, h1_, h2_, h3_⟩
              have n0_ : Aside0 (w23.heap[gb1268]? = some (.cells #[.int .i64 a1_0, .int .i64 a1_1, .int .i64 a1_2] 31 (0, 0))) := ⟨h0_⟩
              have n1_ : Aside0 (w23.heap[gb1269]? = some (.cells #[.int .i64 a2_0, .int .i64 a2_1] 23 (0, 0))) := ⟨h1_⟩
              have n2_ : Aside0 (w23.heap[gb1270]? = some (.cells #[.int .i64 a3_0, .int .i64 a3_1] 23 (0, 0))) := ⟨h2_⟩
              have n3_ : Aside0 (Below w.heap.size w w23) := ⟨h3_⟩
              clear BK1268
              clear BK1269
              clear BK1270
              clear HB
              clear h0_ h1_ h2_ h3_
              have BK1268 := n0_
              have BK1269 := n1_
              have BK1270 := n2_
              have HB := n3_
              clear n0_ n1_ n2_ n3_
              have hHeld : w23.cell? ⟨gb1268, 0, none⟩ = some (.int .i64 a1_0) ∧ w23.cell? ⟨gb1268, 1, none⟩ = some (.int .i64 a1_1) ∧ w23.cell? ⟨gb1268, 2, none⟩ = some (.int .i64 a1_2) ∧ w23.cell? ⟨gb1269, 0, none⟩ = some (.int .i64 a2_0) ∧ w23.cell? ⟨gb1269, 1, none⟩ = some (.int .i64 a2_1) ∧ w23.cell? ⟨gb1270, 0, none⟩ = some (.int .i64 a3_0) ∧ w23.cell? ⟨gb1270, 1, none⟩ = some (.int .i64 a3_1) := hS_
              refine norm_ (a' := ?_) ?_ ?_
              rotate_left
              · simp only [putAll, Act.put, List.setIfInBounds_toArray, List.set_cons_zero, List.set_cons_succ]
                rfl
              refine two_ (i := 7) (j := 11) (Ni := some 21) (Nj := some 9) #[true, true, true, true, true, true, true, true, false, false, false, false, false, false] #[true, true, true, true, true, true, true, false, false, false, false, true, false, false] rfl rfl rfl rfl (two_of HT_.out (by kernel_rfl)) (by decide) (by decide) (fun K hK => ?_) (fun K hK => ?_)
              · skip
                refine goes_ Try.func48 (by kernel_rfl) rfl #[.int .i64 a0, .agg #[.int .i64 t1271, .int .i64 t1272, .int .i64 t1273], .agg #[.int .i64 t1274, .int .i64 t1275], .agg #[.int .i64 t1276, .int .i64 t1277]] (by rfl) rfl rfl (by (try simp only [List.map_toArray, List.map_cons, List.map_nil]); first | done | rfl | (simp only [List.length_drop, List.length_take]; rfl)) ?_
                with_reducible refine (spec_NearestOnLine.calls k a0 t1271 t1272 t1273 t1274 t1275 t1276 t1277 t1278 t1279 t1280 t1281 _ A8.out).mono ?_
                rintro e w24 ⟨rfl, hb⟩
                refine ⟨_, rfl, ?_⟩
                have n0_ := Aside0.mk (blk_below (bkA BK1268) hb)
                have n1_ := Aside0.mk (blk_below (bkA BK1269) hb)
                have n2_ := Aside0.mk (blk_below (bkA BK1270) hb)
                have n3_ := Aside0.mk (below_step blA hb)
                clear BK1268
                clear BK1269
                clear BK1270
                clear HB
                have BK1268 := n0_
                have BK1269 := n1_
                have BK1270 := n2_
                have HB := n3_
                clear n0_ n1_ n2_ n3_
                (try clear hb)
                (try clear hb2)
                (try clear hk)
                (try clear hi)
                refine hK.out _ _ ⟨(blk_cell BK1268.out 0).trans rfl, (blk_cell BK1268.out 1).trans rfl, (blk_cell BK1268.out 2).trans rfl, (blk_cell BK1269.out 0).trans rfl, (blk_cell BK1269.out 1).trans rfl, (blk_cell BK1270.out 0).trans rfl, (blk_cell BK1270.out 1).trans rfl⟩ (fun hHeld => ?_)
                clear hK K
                refine norm_ (a' := ?_) ?_ ?_
                rotate_left
                · show Act.put _ (some 21) _ = _
                  simp only [Act.put, List.setIfInBounds_toArray, List.set_cons_zero, List.set_cons_succ, i64_w, i32_w]
                  rfl
                refine pure_ (i := 8) (N := some 13) (v := ?_) (a' := ?_) #[true, true, true, true, true, true, true, true, true, false, false, false, false, false] rfl rfl (any_of HT_.out (by kernel_rfl)) (fun _ _ _ h => h) (Or.inl ⟨by rfl, ?_⟩) ?_ ?_
                rotate_left
                · intro w'
                  go_simp
                  with_reducible rfl
                rotate_left
                · simp only [Act.put, List.setIfInBounds_toArray, List.set_cons_zero, List.set_cons_succ, i64_w, i32_w]
                  rfl
                refine pure_ (i := 9) (N := some 22) (v := ?_) (a' := ?_) #[true, true, true, true, true, true, true, true, true, true, false, false, false, false] rfl rfl (any_of HT_.out (by kernel_rfl)) (fun _ _ _ h => h) (Or.inl ⟨by rfl, ?_⟩) ?_ ?_
                rotate_left
                · intro w'
                  go_simp
                  with_reducible rfl
                rotate_left
                · simp only [Act.put, List.setIfInBounds_toArray, List.set_cons_zero, List.set_cons_succ, i64_w, i32_w]
                  rfl
                refine pure_ (i := 10) (N := some 23) (v := ?_) (a' := ?_) #[true, true, true, true, true, true, true, true, true, true, true, false, false, false] rfl rfl (any_of HT_.out (by kernel_rfl)) (fun _ _ _ h => h) (Or.inl ⟨by rfl, ?_⟩) ?_ ?_
                rotate_left
                · intro w'
                  go_simp
                  with_reducible rfl
                rotate_left
                · simp only [Act.put, List.setIfInBounds_toArray, List.set_cons_zero, List.set_cons_succ, i64_w, i32_w]
                  rfl
                exact norm_ (by first | (simp only [putAll, Act.put, List.setIfInBounds_toArray, List.set_cons_zero, List.set_cons_succ]; done) | (simp only [putAll, Act.put, List.setIfInBounds_toArray, List.set_cons_zero, List.set_cons_succ]; rfl)) (hJ2_4_6_7 () _ ⟨hHeld, (bkA BK1268), (bkA BK1269), (bkA BK1270), blA⟩)
              · skip
                refine box_step ?hg (N := 9) ?hd (cs := #[.int .i64 0, .int .i64 0, .int .i64 0]) (t := 34) ?hr ?_; (case hd => rfl); (case hg => rfl); (case hr => first | (go_simp; done) | (go_simp; rfl))
                intro gb1282 hg w24 hbox hb
                have n0_ := Aside0.mk (blk_below (bkA BK1268) hb)
                have n1_ := Aside0.mk (blk_below (bkA BK1269) hb)
                have n2_ := Aside0.mk (blk_below (bkA BK1270) hb)
                have n3_ := Aside0.mk (below_step blA hb)
                have n4_ := Aside0.mk (hbox)
                have n5_ := Aside0.mk (szA hg blA)
                have n6_ := Aside0.mk (szA hg blA)
                have n7_ := Aside0.mk (neA hg (bkA BK1268))
                have n8_ := Aside0.mk (neB hg (bkA BK1268))
                have n9_ := Aside0.mk (neA hg (bkA BK1269))
                have n10_ := Aside0.mk (neB hg (bkA BK1269))
                have n11_ := Aside0.mk (neA hg (bkA BK1270))
                have n12_ := Aside0.mk (neB hg (bkA BK1270))
                clear BK1268
                clear BK1269
                clear BK1270
                clear HB
                have BK1268 := n0_
                have BK1269 := n1_
                have BK1270 := n2_
                have HB := n3_
                have BK1282 := n4_
                have GW1282 := n5_
                have GE1282 := n6_
                have NB1268_1282 := n7_
                have NB1282_1268 := n8_
                have NB1269_1282 := n9_
                have NB1282_1269 := n10_
                have NB1270_1282 := n11_
                have NB1282_1270 := n12_
                clear n0_ n1_ n2_ n3_ n4_ n5_ n6_ n7_ n8_ n9_ n10_ n11_ n12_
                clear hb hbox hg
                refine hK.out _ _ ⟨(blk_cell BK1268.out 0).trans rfl, (blk_cell BK1268.out 1).trans rfl, (blk_cell BK1268.out 2).trans rfl, (blk_cell BK1269.out 0).trans rfl, (blk_cell BK1269.out 1).trans rfl, (blk_cell BK1270.out 0).trans rfl, (blk_cell BK1270.out 1).trans rfl⟩ (fun hHeld => ?_)
                clear hK K
                refine norm_ (a' := ?_) ?_ ?_
                rotate_left
                · show Act.put _ (some 9) _ = _
                  simp only [Act.put, List.setIfInBounds_toArray, List.set_cons_zero, List.set_cons_succ, i64_w, i32_w]
                  rfl
                exact norm_ (by first | (simp only [putAll, Act.put, List.setIfInBounds_toArray, List.set_cons_zero, List.set_cons_succ]; done) | (simp only [putAll, Act.put, List.setIfInBounds_toArray, List.set_cons_zero, List.set_cons_succ]; rfl)) (hJ2_4_6_11 (gb1282) _ ⟨hHeld, (bkA BK1268), (bkA BK1269), (bkA BK1270), (bkA BK1282), GW1282.out, GE1282.out, NB1268_1282.out, NB1282_1268.out, NB1269_1282.out, NB1282_1269.out, NB1270_1282.out, NB1282_1270.out, blA⟩)
          · skip
            rintro gb1282 w24 ⟨hS_, h0_, h1_, h2_, h3_, h4_, h5_, h6_, h7_, h8_, h9_, h10_, h11_, h12_⟩
            have n0_ : Aside0 (w24.heap[gb1268]? = some (.cells #[.int .i64 a1_0, .int .i64 a1_1, .int .i64 a1_2] 31 (0, 0))) := ⟨h0_⟩
            have n1_ : Aside0 (w24.heap[gb1269]? = some (.cells #[.int .i64 a2_0, .int .i64 a2_1] 23 (0, 0))) := ⟨h1_⟩
            have n2_ : Aside0 (w24.heap[gb1270]? = some (.cells #[.int .i64 a3_0, .int .i64 a3_1] 23 (0, 0))) := ⟨h2_⟩
            have n3_ : Aside0 (w24.heap[gb1282]? = some (.cells #[.int .i64 0, .int .i64 0, .int .i64 0] 34 (0, 0))) := ⟨h3_⟩
            have n4_ : Aside0 (w.heap.size ≤ gb1282) := ⟨h4_⟩
            have n5_ : Aside0 (w.heap.size ≤ gb1282) := ⟨h5_⟩
            have n6_ : Aside0 (gb1268 ≠ gb1282) := ⟨h6_⟩
            have n7_ : Aside0 (gb1282 ≠ gb1268) := ⟨h7_⟩
            have n8_ : Aside0 (gb1269 ≠ gb1282) := ⟨h8_⟩
            have n9_ : Aside0 (gb1282 ≠ gb1269) := ⟨h9_⟩
            have n10_ : Aside0 (gb1270 ≠ gb1282) := ⟨h10_⟩
            have n11_ : Aside0 (gb1282 ≠ gb1270) := ⟨h11_⟩
            have n12_ : Aside0 (Below w.heap.size w w24) := ⟨h12_⟩
            clear BK1268
            clear BK1269
            clear BK1270
            clear HB
            clear h0_ h1_ h2_ h3_ h4_ h5_ h6_ h7_ h8_ h9_ h10_ h11_ h12_
            have BK1268 := n0_
            have BK1269 := n1_
            have BK1270 := n2_
            have BK1282 := n3_
            have GW1282 := n4_
            have GE1282 := n5_
            have NB1268_1282 := n6_
            have NB1282_1268 := n7_
            have NB1269_1282 := n8_
            have NB1282_1269 := n9_
            have NB1270_1282 := n10_
            have NB1282_1270 := n11_
            have HB := n12_
            clear n0_ n1_ n2_ n3_ n4_ n5_ n6_ n7_ n8_ n9_ n10_ n11_ n12_
            have hHeld : w24.cell? ⟨gb1268, 0, none⟩ = some (.int .i64 a1_0) ∧ w24.cell? ⟨gb1268, 1, none⟩ = some (.int .i64 a1_1) ∧ w24.cell? ⟨gb1268, 2, none⟩ = some (.int .i64 a1_2) ∧ w24.cell? ⟨gb1269, 0, none⟩ = some (.int .i64 a2_0) ∧ w24.cell? ⟨gb1269, 1, none⟩ = some (.int .i64 a2_1) ∧ w24.cell? ⟨gb1270, 0, none⟩ = some (.int .i64 a3_0) ∧ w24.cell? ⟨gb1270, 1, none⟩ = some (.int .i64 a3_1) := hS_
            refine norm_ (a' := ?_) ?_ ?_
            rotate_left
            · simp only [putAll, Act.put, List.setIfInBounds_toArray, List.set_cons_zero, List.set_cons_succ]
              rfl
            refine one_ (i := 7) (N := some 21) #[true, true, true, true, true, true, true, true, false, false, false, true, false, false] rfl rfl (one_of HT_.out (by kernel_rfl)) (by decide) (fun K hK => ?_)
            refine goes_ Try.func48 (by kernel_rfl) rfl #[.int .i64 a0, .agg #[.int .i64 t1271, .int .i64 t1272, .int .i64 t1273], .agg #[.int .i64 t1274, .int .i64 t1275], .agg #[.int .i64 t1276, .int .i64 t1277]] (by rfl) rfl rfl (by (try simp only [List.map_toArray, List.map_cons, List.map_nil]); first | done | rfl | (simp only [List.length_drop, List.length_take]; rfl)) ?_
            with_reducible refine (spec_NearestOnLine.calls k a0 t1271 t1272 t1273 t1274 t1275 t1276 t1277 t1278 t1279 t1280 t1281 _ A8.out).mono ?_
            rintro e w25 ⟨rfl, hb⟩
            refine ⟨_, rfl, ?_⟩
            have n0_ := Aside0.mk (blk_below (bkA BK1268) hb)
            have n1_ := Aside0.mk (blk_below (bkA BK1269) hb)
            have n2_ := Aside0.mk (blk_below (bkA BK1270) hb)
            have n3_ := Aside0.mk (blk_below (bkA BK1282) hb)
            have n4_ := Aside0.mk (below_step blA hb)
            clear BK1268
            clear BK1269
            clear BK1270
            clear BK1282
            clear HB
            have BK1268 := n0_
            have BK1269 := n1_
            have BK1270 := n2_
            have BK1282 := n3_
            have HB := n4_
            clear n0_ n1_ n2_ n3_ n4_
            (try clear hb)
            (try clear hb2)
            (try clear hk)
            (try clear hi)
            refine hK.out _ _ ⟨(blk_cell BK1268.out 0).trans rfl, (blk_cell BK1268.out 1).trans rfl, (blk_cell BK1268.out 2).trans rfl, (blk_cell BK1269.out 0).trans rfl, (blk_cell BK1269.out 1).trans rfl, (blk_cell BK1270.out 0).trans rfl, (blk_cell BK1270.out 1).trans rfl⟩ (fun hHeld => ?_)
            clear hK K
            refine norm_ (a' := ?_) ?_ ?_
            rotate_left
            · show Act.put _ (some 21) _ = _
              simp only [Act.put, List.setIfInBounds_toArray, List.set_cons_zero, List.set_cons_succ, i64_w, i32_w]
              rfl
            refine pure_ (i := 8) (N := some 13) (v := ?_) (a' := ?_) #[true, true, true, true, true, true, true, true, true, false, false, true, false, false] rfl rfl (any_of HT_.out (by kernel_rfl)) (fun _ _ _ h => h) (Or.inl ⟨by rfl, ?_⟩) ?_ ?_
            rotate_left
            · intro w'
              go_simp
              with_reducible rfl
            rotate_left
            · simp only [Act.put, List.setIfInBounds_toArray, List.set_cons_zero, List.set_cons_succ, i64_w, i32_w]
              rfl
            refine pure_ (i := 9) (N := some 22) (v := ?_) (a' := ?_) #[true, true, true, true, true, true, true, true, true, true, false, true, false, false] rfl rfl (any_of HT_.out (by kernel_rfl)) (fun _ _ _ h => h) (Or.inl ⟨by rfl, ?_⟩) ?_ ?_
            rotate_left
            · intro w'
              go_simp
              with_reducible rfl
            rotate_left
            · simp only [Act.put, List.setIfInBounds_toArray, List.set_cons_zero, List.set_cons_succ, i64_w, i32_w]
              rfl
            refine pure_ (i := 10) (N := some 23) (v := ?_) (a' := ?_) #[true, true, true, true, true, true, true, true, true, true, true, true, false, false] rfl rfl (any_of HT_.out (by kernel_rfl)) (fun _ _ _ h => h) (Or.inl ⟨by rfl, ?_⟩) ?_ ?_
            rotate_left
            · intro w'
              go_simp
              with_reducible rfl
            rotate_left
            · simp only [Act.put, List.setIfInBounds_toArray, List.set_cons_zero, List.set_cons_succ, i64_w, i32_w]
              rfl
            exact norm_ (by first | (simp only [putAll, Act.put, List.setIfInBounds_toArray, List.set_cons_zero, List.set_cons_succ]; done) | (simp only [putAll, Act.put, List.setIfInBounds_toArray, List.set_cons_zero, List.set_cons_succ]; rfl)) (hJ2_4_6_7_11 (gb1282) _ ⟨hHeld, (bkA BK1268), (bkA BK1269), (bkA BK1270), (bkA BK1282), GW1282.out, GE1282.out, NB1268_1282.out, NB1282_1268.out, NB1269_1282.out, NB1282_1269.out, NB1270_1282.out, NB1282_1270.out, blA⟩)
        · skip
          rintro _ w24 ⟨hS_, h0_, h1_, h2_, h3_⟩
          have n0_ : Aside0 (w24.heap[gb1268]? = some (.cells #[.int .i64 a1_0, .int .i64 a1_1, .int .i64 a1_2] 31 (0, 0))) := ⟨h0_⟩
          have n1_ : Aside0 (w24.heap[gb1269]? = some (.cells #[.int .i64 a2_0, .int .i64 a2_1] 23 (0, 0))) := ⟨h1_⟩
          have n2_ : Aside0 (w24.heap[gb1270]? = some (.cells #[.int .i64 a3_0, .int .i64 a3_1] 23 (0, 0))) := ⟨h2_⟩
          have n3_ : Aside0 (Below w.heap.size w w24) := ⟨h3_⟩
          clear BK1268
          clear BK1269
          clear BK1270
          clear HB
          clear h0_ h1_ h2_ h3_
          have BK1268 := n0_
          have BK1269 := n1_
          have BK1270 := n2_
          have HB := n3_
          clear n0_ n1_ n2_ n3_
          have hHeld : w24.cell? ⟨gb1268, 0, none⟩ = some (.int .i64 a1_0) ∧ w24.cell? ⟨gb1268, 1, none⟩ = some (.int .i64 a1_1) ∧ w24.cell? ⟨gb1268, 2, none⟩ = some (.int .i64 a1_2) ∧ w24.cell? ⟨gb1269, 0, none⟩ = some (.int .i64 a2_0) ∧ w24.cell? ⟨gb1269, 1, none⟩ = some (.int .i64 a2_1) ∧ w24.cell? ⟨gb1270, 0, none⟩ = some (.int .i64 a3_0) ∧ w24.cell? ⟨gb1270, 1, none⟩ = some (.int .i64 a3_1) := hS_
          refine norm_ (a' := ?_) ?_ ?_
          rotate_left
          · simp only [putAll, Act.put, List.setIfInBounds_toArray, List.set_cons_zero, List.set_cons_succ]
            rfl
          refine one_ (i := 11) (N := some 9) #[true, true, true, true, true, true, true, true, true, true, true, true, false, false] rfl rfl (one_of HT_.out (by kernel_rfl)) (by decide) (fun K hK => ?_)
          refine box_step ?hg (N := 9) ?hd (cs := #[.int .i64 0, .int .i64 0, .int .i64 0]) (t := 34) ?hr ?_; (case hd => rfl); (case hg => rfl); (case hr => first | (go_simp; done) | (go_simp; rfl))
          intro gb1282 hg w25 hbox hb
          have n0_ := Aside0.mk (blk_below (bkA BK1268) hb)
          have n1_ := Aside0.mk (blk_below (bkA BK1269) hb)
          have n2_ := Aside0.mk (blk_below (bkA BK1270) hb)
          have n3_ := Aside0.mk (below_step blA hb)
          have n4_ := Aside0.mk (hbox)
          have n5_ := Aside0.mk (szA hg blA)
          have n6_ := Aside0.mk (szA hg blA)
          have n7_ := Aside0.mk (neA hg (bkA BK1268))
          have n8_ := Aside0.mk (neB hg (bkA BK1268))
          have n9_ := Aside0.mk (neA hg (bkA BK1269))
          have n10_ := Aside0.mk (neB hg (bkA BK1269))
          have n11_ := Aside0.mk (neA hg (bkA BK1270))
          have n12_ := Aside0.mk (neB hg (bkA BK1270))
          clear BK1268
          clear BK1269
          clear BK1270
          clear HB
          have BK1268 := n0_
          have BK1269 := n1_
          have BK1270 := n2_
          have HB := n3_
          have BK1282 := n4_
          have GW1282 := n5_
          have GE1282 := n6_
          have NB1268_1282 := n7_
          have NB1282_1268 := n8_
          have NB1269_1282 := n9_
          have NB1282_1269 := n10_
          have NB1270_1282 := n11_
          have NB1282_1270 := n12_
          clear n0_ n1_ n2_ n3_ n4_ n5_ n6_ n7_ n8_ n9_ n10_ n11_ n12_
          clear hb hbox hg
          refine hK.out _ _ ⟨(blk_cell BK1268.out 0).trans rfl, (blk_cell BK1268.out 1).trans rfl, (blk_cell BK1268.out 2).trans rfl, (blk_cell BK1269.out 0).trans rfl, (blk_cell BK1269.out 1).trans rfl, (blk_cell BK1270.out 0).trans rfl, (blk_cell BK1270.out 1).trans rfl⟩ (fun hHeld => ?_)
          clear hK K
          refine norm_ (a' := ?_) ?_ ?_
          rotate_left
          · show Act.put _ (some 9) _ = _
            simp only [Act.put, List.setIfInBounds_toArray, List.set_cons_zero, List.set_cons_succ, i64_w, i32_w]
            rfl
          exact norm_ (by first | (simp only [putAll, Act.put, List.setIfInBounds_toArray, List.set_cons_zero, List.set_cons_succ]; done) | (simp only [putAll, Act.put, List.setIfInBounds_toArray, List.set_cons_zero, List.set_cons_succ]; rfl)) (hJ2_4_6_7_11 (gb1282) _ ⟨hHeld, (bkA BK1268), (bkA BK1269), (bkA BK1270), (bkA BK1282), GW1282.out, GE1282.out, NB1268_1282.out, NB1282_1268.out, NB1269_1282.out, NB1282_1269.out, NB1270_1282.out, NB1282_1270.out, blA⟩)
      rintro gb1282 w25 ⟨hS_, h0_, h1_, h2_, h3_, h4_, h5_, h6_, h7_, h8_, h9_, h10_, h11_, h12_⟩
      have n0_ : Aside0 (w25.heap[gb1268]? = some (.cells #[.int .i64 a1_0, .int .i64 a1_1, .int .i64 a1_2] 31 (0, 0))) := ⟨h0_⟩
      have n1_ : Aside0 (w25.heap[gb1269]? = some (.cells #[.int .i64 a2_0, .int .i64 a2_1] 23 (0, 0))) := ⟨h1_⟩
      have n2_ : Aside0 (w25.heap[gb1270]? = some (.cells #[.int .i64 a3_0, .int .i64 a3_1] 23 (0, 0))) := ⟨h2_⟩
      have n3_ : Aside0 (w25.heap[gb1282]? = some (.cells #[.int .i64 0, .int .i64 0, .int .i64 0] 34 (0, 0))) := ⟨h3_⟩
      have n4_ : Aside0 (w.heap.size ≤ gb1282) := ⟨h4_⟩
      have n5_ : Aside0 (w.heap.size ≤ gb1282) := ⟨h5_⟩
      have n6_ : Aside0 (gb1268 ≠ gb1282) := ⟨h6_⟩
      have n7_ : Aside0 (gb1282 ≠ gb1268) := ⟨h7_⟩
      have n8_ : Aside0 (gb1269 ≠ gb1282) := ⟨h8_⟩
      have n9_ : Aside0 (gb1282 ≠ gb1269) := ⟨h9_⟩
      have n10_ : Aside0 (gb1270 ≠ gb1282) := ⟨h10_⟩
      have n11_ : Aside0 (gb1282 ≠ gb1270) := ⟨h11_⟩
      have n12_ : Aside0 (Below w.heap.size w w25) := ⟨h12_⟩
      clear BK1268
      clear BK1269
      clear BK1270
      clear HB
      clear h0_ h1_ h2_ h3_ h4_ h5_ h6_ h7_ h8_ h9_ h10_ h11_ h12_
      have BK1268 := n0_
      have BK1269 := n1_
      have BK1270 := n2_
      have BK1282 := n3_
      have GW1282 := n4_
      have GE1282 := n5_
      have NB1268_1282 := n6_
      have NB1282_1268 := n7_
      have NB1269_1282 := n8_
      have NB1282_1269 := n9_
      have NB1270_1282 := n10_
      have NB1282_1270 := n11_
      have HB := n12_
      clear n0_ n1_ n2_ n3_ n4_ n5_ n6_ n7_ n8_ n9_ n10_ n11_ n12_
      have hHeld : w25.cell? ⟨gb1268, 0, none⟩ = some (.int .i64 a1_0) ∧ w25.cell? ⟨gb1268, 1, none⟩ = some (.int .i64 a1_1) ∧ w25.cell? ⟨gb1268, 2, none⟩ = some (.int .i64 a1_2) ∧ w25.cell? ⟨gb1269, 0, none⟩ = some (.int .i64 a2_0) ∧ w25.cell? ⟨gb1269, 1, none⟩ = some (.int .i64 a2_1) ∧ w25.cell? ⟨gb1270, 0, none⟩ = some (.int .i64 a3_0) ∧ w25.cell? ⟨gb1270, 1, none⟩ = some (.int .i64 a3_1) := hS_
      refine norm_ (a' := ?_) ?_ ?_
      rotate_left
      · simp only [putAll, Act.put, List.setIfInBounds_toArray, List.set_cons_zero, List.set_cons_succ]
        rfl
      refine one_ (i := 12) (N := none) #[true, true, true, true, true, true, true, true, true, true, true, true, true, false] rfl rfl (one_of HT_.out (by kernel_rfl)) (by decide) (fun K hK => ?_)
      have hs26 : w25.cell? ⟨gb1282, 0, none⟩ = some (.int .i64 0) := (blk_cell BK1282.out 0).trans rfl
      have hfs26 := blk_frozen BK1282.out 0
      have hns26_0 := NB1268_1282.out
      have hns26_1 := NB1269_1282.out
      have hns26_2 := NB1270_1282.out
      have hms26_0 := NB1282_1268.out
      have hms26_1 := NB1282_1269.out
      have hms26_2 := NB1282_1270.out
      have hs27 : w25.cell? ⟨gb1282, 1, none⟩ = some (.int .i64 0) := (blk_cell BK1282.out 1).trans rfl
      have hfs27 := blk_frozen BK1282.out 1
      have hns27_0 := NB1268_1282.out
      have hns27_1 := NB1269_1282.out
      have hns27_2 := NB1270_1282.out
      have hms27_0 := NB1282_1268.out
      have hms27_1 := NB1282_1269.out
      have hms27_2 := NB1282_1270.out
      have hs28 : w25.cell? ⟨gb1282, 2, none⟩ = some (.int .i64 0) := (blk_cell BK1282.out 2).trans rfl
      have hfs28 := blk_frozen BK1282.out 2
      have hns28_0 := NB1268_1282.out
      have hns28_1 := NB1269_1282.out
      have hns28_2 := NB1270_1282.out
      have hms28_0 := NB1282_1268.out
      have hms28_1 := NB1282_1269.out
      have hms28_2 := NB1282_1270.out
      refine skip_ (w1 := ?_) (by rfl) rfl ?_ ?_
      rotate_left
      · go_simp
        rfl
      refine hK.out _ _ ⟨((cell_far (p := ⟨gb1282, _, none⟩) NB1268_1282.out _).trans (((cell_far (p := ⟨gb1282, _, none⟩) NB1268_1282.out _).trans (((cell_far (p := ⟨gb1282, _, none⟩) NB1268_1282.out _).trans (hHeld.1)))))), ((cell_far (p := ⟨gb1282, _, none⟩) NB1268_1282.out _).trans (((cell_far (p := ⟨gb1282, _, none⟩) NB1268_1282.out _).trans (((cell_far (p := ⟨gb1282, _, none⟩) NB1268_1282.out _).trans (hHeld.2.1)))))), ((cell_far (p := ⟨gb1282, _, none⟩) NB1268_1282.out _).trans (((cell_far (p := ⟨gb1282, _, none⟩) NB1268_1282.out _).trans (((cell_far (p := ⟨gb1282, _, none⟩) NB1268_1282.out _).trans (hHeld.2.2.1)))))), ((cell_far (p := ⟨gb1282, _, none⟩) NB1269_1282.out _).trans (((cell_far (p := ⟨gb1282, _, none⟩) NB1269_1282.out _).trans (((cell_far (p := ⟨gb1282, _, none⟩) NB1269_1282.out _).trans (hHeld.2.2.2.1)))))), ((cell_far (p := ⟨gb1282, _, none⟩) NB1269_1282.out _).trans (((cell_far (p := ⟨gb1282, _, none⟩) NB1269_1282.out _).trans (((cell_far (p := ⟨gb1282, _, none⟩) NB1269_1282.out _).trans (hHeld.2.2.2.2.1)))))), ((cell_far (p := ⟨gb1282, _, none⟩) NB1270_1282.out _).trans (((cell_far (p := ⟨gb1282, _, none⟩) NB1270_1282.out _).trans (((cell_far (p := ⟨gb1282, _, none⟩) NB1270_1282.out _).trans (hHeld.2.2.2.2.2.1)))))), ((cell_far (p := ⟨gb1282, _, none⟩) NB1270_1282.out _).trans (((cell_far (p := ⟨gb1282, _, none⟩) NB1270_1282.out _).trans (((cell_far (p := ⟨gb1282, _, none⟩) NB1270_1282.out _).trans (hHeld.2.2.2.2.2.2))))))⟩ (fun hHeld => ?_)
      clear hK K
      refine pure_ (i := 13) (N := some 10) (v := ?_) (a' := ?_) #[true, true, true, true, true, true, true, true, true, true, true, true, true, true] rfl rfl (any_of HT_.out (by kernel_rfl)) (fun _ _ _ h => h) (Or.inl ⟨by rfl, ?_⟩) ?_ ?_
      rotate_left
      · intro w'
        go_simp
        with_reducible rfl
      rotate_left
      · simp only [Act.put, List.setIfInBounds_toArray, List.set_cons_zero, List.set_cons_succ, i64_w, i32_w]
        rfl
      refine done_ (done_of HT_.out (by kernel_rfl)) ?_
      try go_wp2
      have n0_ : Aside0 ((((w25.setCell ⟨gb1282, 0, none⟩ (.int .i64 t1278)).setCell ⟨gb1282, 1, none⟩ (.int .i64 t1279)).setCell ⟨gb1282, 2, none⟩ (.int .i64 t1280)).heap[gb1268]? = some (.cells #[.int .i64 a1_0, .int .i64 a1_1, .int .i64 a1_2] 31 (0, 0))) := ⟨by (with_reducible repeat (first | refine blk_drewN ?_ _ | refine blk_drew ?_ | refine blk_alloc ?_ _)); refine blk_far ?_ NB1268_1282.out _; (with_reducible repeat (first | refine blk_drewN ?_ _ | refine blk_drew ?_ | refine blk_alloc ?_ _)); refine blk_far ?_ NB1268_1282.out _; (with_reducible repeat (first | refine blk_drewN ?_ _ | refine blk_drew ?_ | refine blk_alloc ?_ _)); refine blk_far ?_ NB1268_1282.out _; (with_reducible repeat (first | refine blk_drewN ?_ _ | refine blk_drew ?_ | refine blk_alloc ?_ _)); exact BK1268.out⟩
      have n1_ : Aside0 ((((w25.setCell ⟨gb1282, 0, none⟩ (.int .i64 t1278)).setCell ⟨gb1282, 1, none⟩ (.int .i64 t1279)).setCell ⟨gb1282, 2, none⟩ (.int .i64 t1280)).heap[gb1269]? = some (.cells #[.int .i64 a2_0, .int .i64 a2_1] 23 (0, 0))) := ⟨by (with_reducible repeat (first | refine blk_drewN ?_ _ | refine blk_drew ?_ | refine blk_alloc ?_ _)); refine blk_far ?_ NB1269_1282.out _; (with_reducible repeat (first | refine blk_drewN ?_ _ | refine blk_drew ?_ | refine blk_alloc ?_ _)); refine blk_far ?_ NB1269_1282.out _; (with_reducible repeat (first | refine blk_drewN ?_ _ | refine blk_drew ?_ | refine blk_alloc ?_ _)); refine blk_far ?_ NB1269_1282.out _; (with_reducible repeat (first | refine blk_drewN ?_ _ | refine blk_drew ?_ | refine blk_alloc ?_ _)); exact BK1269.out⟩
      have n2_ : Aside0 ((((w25.setCell ⟨gb1282, 0, none⟩ (.int .i64 t1278)).setCell ⟨gb1282, 1, none⟩ (.int .i64 t1279)).setCell ⟨gb1282, 2, none⟩ (.int .i64 t1280)).heap[gb1270]? = some (.cells #[.int .i64 a3_0, .int .i64 a3_1] 23 (0, 0))) := ⟨by (with_reducible repeat (first | refine blk_drewN ?_ _ | refine blk_drew ?_ | refine blk_alloc ?_ _)); refine blk_far ?_ NB1270_1282.out _; (with_reducible repeat (first | refine blk_drewN ?_ _ | refine blk_drew ?_ | refine blk_alloc ?_ _)); refine blk_far ?_ NB1270_1282.out _; (with_reducible repeat (first | refine blk_drewN ?_ _ | refine blk_drew ?_ | refine blk_alloc ?_ _)); refine blk_far ?_ NB1270_1282.out _; (with_reducible repeat (first | refine blk_drewN ?_ _ | refine blk_drew ?_ | refine blk_alloc ?_ _)); exact BK1270.out⟩
      have n3_ : Aside0 ((((w25.setCell ⟨gb1282, 0, none⟩ (.int .i64 t1278)).setCell ⟨gb1282, 1, none⟩ (.int .i64 t1279)).setCell ⟨gb1282, 2, none⟩ (.int .i64 t1280)).heap[gb1282]? = some (.cells #[.int .i64 t1278, .int .i64 t1279, .int .i64 t1280] 34 (0, 0))) := ⟨by (with_reducible repeat (first | refine blk_drewN ?_ _ | refine blk_drew ?_ | refine blk_alloc ?_ _)); refine blk_put (cs := #[.int .i64 t1278, .int .i64 t1279, .int .i64 0]) ?_ 2 _ rfl; (with_reducible repeat (first | refine blk_drewN ?_ _ | refine blk_drew ?_ | refine blk_alloc ?_ _)); refine blk_put (cs := #[.int .i64 t1278, .int .i64 0, .int .i64 0]) ?_ 1 _ rfl; (with_reducible repeat (first | refine blk_drewN ?_ _ | refine blk_drew ?_ | refine blk_alloc ?_ _)); refine blk_put (cs := #[.int .i64 0, .int .i64 0, .int .i64 0]) ?_ 0 _ rfl; (with_reducible repeat (first | refine blk_drewN ?_ _ | refine blk_drew ?_ | refine blk_alloc ?_ _)); exact BK1282.out⟩
      have n4_ : Aside0 (Below w.heap.size w (((w25.setCell ⟨gb1282, 0, none⟩ (.int .i64 t1278)).setCell ⟨gb1282, 1, none⟩ (.int .i64 t1279)).setCell ⟨gb1282, 2, none⟩ (.int .i64 t1280))) := ⟨blA⟩
      (try clear BK1268)
      (try clear BK1269)
      (try clear BK1270)
      (try clear BK1282)
      (try clear HB)
      generalize (((w25.setCell ⟨gb1282, 0, none⟩ (.int .i64 t1278)).setCell ⟨gb1282, 1, none⟩ (.int .i64 t1279)).setCell ⟨gb1282, 2, none⟩ (.int .i64 t1280)) = w29 at n0_ n1_ n2_ n3_ n4_ ⊢
      have BK1268 := n0_
      have BK1269 := n1_
      have BK1270 := n2_
      have BK1282 := n3_
      have HB := n4_
      clear n0_ n1_ n2_ n3_ n4_
      have n0_ := Aside0.mk (blk_drew BK1268.out)
      have n1_ := Aside0.mk (blk_drew BK1269.out)
      have n2_ := Aside0.mk (blk_drew BK1270.out)
      have n3_ := Aside0.mk (blk_drew BK1282.out)
      have n4_ := Aside0.mk (below_drew1 HB.out)
      clear BK1268
      clear BK1269
      clear BK1270
      clear BK1282
      clear HB
      have BK1268 := n0_
      have BK1269 := n1_
      have BK1270 := n2_
      have BK1282 := n3_
      have HB := n4_
      clear n0_ n1_ n2_ n3_ n4_
      refine start_ (n := 14) (S := fun w' => w'.cell? ⟨gb1268, 0, none⟩ = some (.int .i64 a1_0) ∧ w'.cell? ⟨gb1268, 1, none⟩ = some (.int .i64 a1_1) ∧ w'.cell? ⟨gb1268, 2, none⟩ = some (.int .i64 a1_2) ∧ w'.cell? ⟨gb1269, 0, none⟩ = some (.int .i64 a2_0) ∧ w'.cell? ⟨gb1269, 1, none⟩ = some (.int .i64 a2_1) ∧ w'.cell? ⟨gb1270, 0, none⟩ = some (.int .i64 a3_0) ∧ w'.cell? ⟨gb1270, 1, none⟩ = some (.int .i64 a3_1)) (ds := []) #[false, false, false, false, false, false, false, false, false, false, false, false, false, false] (by kernel_rfl) rfl rfl ⟨(blk_cell BK1268.out 0).trans rfl, (blk_cell BK1268.out 1).trans rfl, (blk_cell BK1268.out 2).trans rfl, (blk_cell BK1269.out 0).trans rfl, (blk_cell BK1269.out 1).trans rfl, (blk_cell BK1270.out 0).trans rfl, (blk_cell BK1270.out 1).trans rfl⟩ (fun hHeld => ?_); refine with_tabW laws_FnExactNearestOnLine.tab2 laws_FnExactNearestOnLine.bits2 (fun HT_ HW_ => ?_)
      generalize w29.drew = w30 at BK1268 BK1269 BK1270 BK1282 HB hHeld ⊢
      refine pure_ (i := 0) (N := some 25) (v := ?_) (a' := ?_) #[true, false, false, false, false, false, false, false, false, false, false, false, false, false] rfl rfl (any_of HT_.out (by kernel_rfl)) (fun _ _ _ h => h) (Or.inl ⟨by rfl, ?_⟩) ?_ ?_
      rotate_left
      · intro w'
        go_simp
        with_reducible rfl
      rotate_left
      · simp only [Act.put, List.setIfInBounds_toArray, List.set_cons_zero, List.set_cons_succ, i64_w, i32_w]
        rfl
      refine take_ (i := 1) (N := some 26) (v := ?_) (a' := ?_) #[true, true, false, false, false, false, false, false, false, false, false, false, false, false] rfl rfl (take_ofW HT_.out HW_.out (by kernel_rfl)) (fun _ _ _ h => h) (Or.inl ⟨by rfl, ?_⟩) hHeld ?_ ?_
      rotate_left
      · rintro w' ⟨s0, s1, s2, s3, s4, s5, s6⟩
        go_simp
        with_reducible rfl
      rotate_left
      · simp only [Act.put, List.setIfInBounds_toArray, List.set_cons_zero, List.set_cons_succ, i64_w, i32_w]
        rfl
      refine take_ (i := 3) (N := some 28) (v := ?_) (a' := ?_) #[true, true, false, true, false, false, false, false, false, false, false, false, false, false] rfl rfl (take_ofW HT_.out HW_.out (by kernel_rfl)) (fun _ _ _ h => h) (Or.inl ⟨by rfl, ?_⟩) hHeld ?_ ?_
      rotate_left
      · rintro w' ⟨s0, s1, s2, s3, s4, s5, s6⟩
        go_simp
        with_reducible rfl
      rotate_left
      · simp only [Act.put, List.setIfInBounds_toArray, List.set_cons_zero, List.set_cons_succ, i64_w, i32_w]
        rfl
      refine take_ (i := 5) (N := some 30) (v := ?_) (a' := ?_) #[true, true, false, true, false, true, false, false, false, false, false, false, false, false] rfl rfl (take_ofW HT_.out HW_.out (by kernel_rfl)) (fun _ _ _ h => h) (Or.inl ⟨by rfl, ?_⟩) hHeld ?_ ?_
      rotate_left
      · rintro w' ⟨s0, s1, s2, s3, s4, s5, s6⟩
        go_simp
        with_reducible rfl
      rotate_left
      · simp only [Act.put, List.setIfInBounds_toArray, List.set_cons_zero, List.set_cons_succ, i64_w, i32_w]
        rfl
      refine join_ (σ := Nat) 2 #[true, true, true, true, true, true, true, true, true, true, true, true, false, false] (fun s_ => [(27, .agg #[.int .i64 t1283, .int .i64 t1284, .int .i64 t1285]), (29, .agg #[.int .i64 t1286, .int .i64 t1287]), (31, .agg #[.int .i64 t1288, .int .i64 t1289]), (32, .tuple #[.agg #[.int .i64 t1290, .int .i64 t1291, .int .i64 t1292], .int .i64 t1293]), (11, .pointer (some ⟨s_, 0, none⟩)), (24, .tuple #[.agg #[.int .i64 t1290, .int .i64 t1291, .int .i64 t1292], .int .i64 t1293]), (33, .agg #[.int .i64 t1290, .int .i64 t1291, .int .i64 t1292]), (34, .int .i64 t1293)]) (fun s_ w' => (w'.cell? ⟨gb1268, 0, none⟩ = some (.int .i64 a1_0) ∧ w'.cell? ⟨gb1268, 1, none⟩ = some (.int .i64 a1_1) ∧ w'.cell? ⟨gb1268, 2, none⟩ = some (.int .i64 a1_2) ∧ w'.cell? ⟨gb1269, 0, none⟩ = some (.int .i64 a2_0) ∧ w'.cell? ⟨gb1269, 1, none⟩ = some (.int .i64 a2_1) ∧ w'.cell? ⟨gb1270, 0, none⟩ = some (.int .i64 a3_0) ∧ w'.cell? ⟨gb1270, 1, none⟩ = some (.int .i64 a3_1)) ∧ (w'.heap[gb1268]? = some (.cells #[.int .i64 a1_0, .int .i64 a1_1, .int .i64 a1_2] 31 (0, 0))) ∧ (w'.heap[gb1269]? = some (.cells #[.int .i64 a2_0, .int .i64 a2_1] 23 (0, 0))) ∧ (w'.heap[gb1270]? = some (.cells #[.int .i64 a3_0, .int .i64 a3_1] 23 (0, 0))) ∧ (w'.heap[gb1282]? = some (.cells #[.int .i64 t1278, .int .i64 t1279, .int .i64 t1280] 34 (0, 0))) ∧ (w'.heap[s_]? = some (.cells #[.int .i64 0, .int .i64 0, .int .i64 0] 34 (0, 0))) ∧ (w.heap.size ≤ s_) ∧ (w.heap.size ≤ s_) ∧ (gb1268 ≠ s_) ∧ (s_ ≠ gb1268) ∧ (gb1269 ≠ s_) ∧ (s_ ≠ gb1269) ∧ (gb1270 ≠ s_) ∧ (s_ ≠ gb1270) ∧ (gb1282 ≠ s_) ∧ (s_ ≠ gb1282) ∧ (Below w.heap.size w w')) ?_ ?_
      rotate_left
      · intro hJ2_4_6_7_11
        refine join_ (σ := Unit) 3 #[true, true, true, true, true, true, true, true, true, true, true, false, false, false] (fun s_ => [(27, .agg #[.int .i64 t1283, .int .i64 t1284, .int .i64 t1285]), (29, .agg #[.int .i64 t1286, .int .i64 t1287]), (31, .agg #[.int .i64 t1288, .int .i64 t1289]), (32, .tuple #[.agg #[.int .i64 t1290, .int .i64 t1291, .int .i64 t1292], .int .i64 t1293]), (24, .tuple #[.agg #[.int .i64 t1290, .int .i64 t1291, .int .i64 t1292], .int .i64 t1293]), (33, .agg #[.int .i64 t1290, .int .i64 t1291, .int .i64 t1292]), (34, .int .i64 t1293)]) (fun s_ w' => (w'.cell? ⟨gb1268, 0, none⟩ = some (.int .i64 a1_0) ∧ w'.cell? ⟨gb1268, 1, none⟩ = some (.int .i64 a1_1) ∧ w'.cell? ⟨gb1268, 2, none⟩ = some (.int .i64 a1_2) ∧ w'.cell? ⟨gb1269, 0, none⟩ = some (.int .i64 a2_0) ∧ w'.cell? ⟨gb1269, 1, none⟩ = some (.int .i64 a2_1) ∧ w'.cell? ⟨gb1270, 0, none⟩ = some (.int .i64 a3_0) ∧ w'.cell? ⟨gb1270, 1, none⟩ = some (.int .i64 a3_1)) ∧ (w'.heap[gb1268]? = some (.cells #[.int .i64 a1_0, .int .i64 a1_1, .int .i64 a1_2] 31 (0, 0))) ∧ (w'.heap[gb1269]? = some (.cells #[.int .i64 a2_0, .int .i64 a2_1] 23 (0, 0))) ∧ (w'.heap[gb1270]? = some (.cells #[.int .i64 a3_0, .int .i64 a3_1] 23 (0, 0))) ∧ (w'.heap[gb1282]? = some (.cells #[.int .i64 t1278, .int .i64 t1279, .int .i64 t1280] 34 (0, 0))) ∧ (Below w.heap.size w w')) ?_ ?_
        rotate_left
        · intro hJ2_4_6_7
          refine join_ (σ := Nat) 6 #[true, true, true, true, true, true, true, false, false, false, false, true, false, false] (fun s_ => [(27, .agg #[.int .i64 t1283, .int .i64 t1284, .int .i64 t1285]), (29, .agg #[.int .i64 t1286, .int .i64 t1287]), (31, .agg #[.int .i64 t1288, .int .i64 t1289]), (11, .pointer (some ⟨s_, 0, none⟩))]) (fun s_ w' => (w'.cell? ⟨gb1268, 0, none⟩ = some (.int .i64 a1_0) ∧ w'.cell? ⟨gb1268, 1, none⟩ = some (.int .i64 a1_1) ∧ w'.cell? ⟨gb1268, 2, none⟩ = some (.int .i64 a1_2) ∧ w'.cell? ⟨gb1269, 0, none⟩ = some (.int .i64 a2_0) ∧ w'.cell? ⟨gb1269, 1, none⟩ = some (.int .i64 a2_1) ∧ w'.cell? ⟨gb1270, 0, none⟩ = some (.int .i64 a3_0) ∧ w'.cell? ⟨gb1270, 1, none⟩ = some (.int .i64 a3_1)) ∧ (w'.heap[gb1268]? = some (.cells #[.int .i64 a1_0, .int .i64 a1_1, .int .i64 a1_2] 31 (0, 0))) ∧ (w'.heap[gb1269]? = some (.cells #[.int .i64 a2_0, .int .i64 a2_1] 23 (0, 0))) ∧ (w'.heap[gb1270]? = some (.cells #[.int .i64 a3_0, .int .i64 a3_1] 23 (0, 0))) ∧ (w'.heap[gb1282]? = some (.cells #[.int .i64 t1278, .int .i64 t1279, .int .i64 t1280] 34 (0, 0))) ∧ (w'.heap[s_]? = some (.cells #[.int .i64 0, .int .i64 0, .int .i64 0] 34 (0, 0))) ∧ (w.heap.size ≤ s_) ∧ (w.heap.size ≤ s_) ∧ (gb1268 ≠ s_) ∧ (s_ ≠ gb1268) ∧ (gb1269 ≠ s_) ∧ (s_ ≠ gb1269) ∧ (gb1270 ≠ s_) ∧ (s_ ≠ gb1270) ∧ (gb1282 ≠ s_) ∧ (s_ ≠ gb1282) ∧ (Below w.heap.size w w')) ?_ ?_
          rotate_left
          · intro hJ2_4_6_11
            refine join_ (σ := Unit) 7 #[true, true, true, true, true, true, true, false, false, false, false, false, false, false] (fun s_ => [(27, .agg #[.int .i64 t1283, .int .i64 t1284, .int .i64 t1285]), (29, .agg #[.int .i64 t1286, .int .i64 t1287]), (31, .agg #[.int .i64 t1288, .int .i64 t1289])]) (fun s_ w' => (w'.cell? ⟨gb1268, 0, none⟩ = some (.int .i64 a1_0) ∧ w'.cell? ⟨gb1268, 1, none⟩ = some (.int .i64 a1_1) ∧ w'.cell? ⟨gb1268, 2, none⟩ = some (.int .i64 a1_2) ∧ w'.cell? ⟨gb1269, 0, none⟩ = some (.int .i64 a2_0) ∧ w'.cell? ⟨gb1269, 1, none⟩ = some (.int .i64 a2_1) ∧ w'.cell? ⟨gb1270, 0, none⟩ = some (.int .i64 a3_0) ∧ w'.cell? ⟨gb1270, 1, none⟩ = some (.int .i64 a3_1)) ∧ (w'.heap[gb1268]? = some (.cells #[.int .i64 a1_0, .int .i64 a1_1, .int .i64 a1_2] 31 (0, 0))) ∧ (w'.heap[gb1269]? = some (.cells #[.int .i64 a2_0, .int .i64 a2_1] 23 (0, 0))) ∧ (w'.heap[gb1270]? = some (.cells #[.int .i64 a3_0, .int .i64 a3_1] 23 (0, 0))) ∧ (w'.heap[gb1282]? = some (.cells #[.int .i64 t1278, .int .i64 t1279, .int .i64 t1280] 34 (0, 0))) ∧ (Below w.heap.size w w')) ?_ ?_
            rotate_left
            · intro hJ2_4_6
              refine join_ (σ := Nat) 7 #[true, true, true, true, true, true, false, false, false, false, false, true, false, false] (fun s_ => [(27, .agg #[.int .i64 t1283, .int .i64 t1284, .int .i64 t1285]), (29, .agg #[.int .i64 t1286, .int .i64 t1287]), (11, .pointer (some ⟨s_, 0, none⟩))]) (fun s_ w' => (w'.cell? ⟨gb1268, 0, none⟩ = some (.int .i64 a1_0) ∧ w'.cell? ⟨gb1268, 1, none⟩ = some (.int .i64 a1_1) ∧ w'.cell? ⟨gb1268, 2, none⟩ = some (.int .i64 a1_2) ∧ w'.cell? ⟨gb1269, 0, none⟩ = some (.int .i64 a2_0) ∧ w'.cell? ⟨gb1269, 1, none⟩ = some (.int .i64 a2_1) ∧ w'.cell? ⟨gb1270, 0, none⟩ = some (.int .i64 a3_0) ∧ w'.cell? ⟨gb1270, 1, none⟩ = some (.int .i64 a3_1)) ∧ (w'.heap[gb1268]? = some (.cells #[.int .i64 a1_0, .int .i64 a1_1, .int .i64 a1_2] 31 (0, 0))) ∧ (w'.heap[gb1269]? = some (.cells #[.int .i64 a2_0, .int .i64 a2_1] 23 (0, 0))) ∧ (w'.heap[gb1270]? = some (.cells #[.int .i64 a3_0, .int .i64 a3_1] 23 (0, 0))) ∧ (w'.heap[gb1282]? = some (.cells #[.int .i64 t1278, .int .i64 t1279, .int .i64 t1280] 34 (0, 0))) ∧ (w'.heap[s_]? = some (.cells #[.int .i64 0, .int .i64 0, .int .i64 0] 34 (0, 0))) ∧ (w.heap.size ≤ s_) ∧ (w.heap.size ≤ s_) ∧ (gb1268 ≠ s_) ∧ (s_ ≠ gb1268) ∧ (gb1269 ≠ s_) ∧ (s_ ≠ gb1269) ∧ (gb1270 ≠ s_) ∧ (s_ ≠ gb1270) ∧ (gb1282 ≠ s_) ∧ (s_ ≠ gb1282) ∧ (Below w.heap.size w w')) ?_ ?_
              rotate_left
              · intro hJ2_4_11
                refine join_ (σ := Unit) 8 #[true, true, true, true, true, true, false, false, false, false, false, false, false, false] (fun s_ => [(27, .agg #[.int .i64 t1283, .int .i64 t1284, .int .i64 t1285]), (29, .agg #[.int .i64 t1286, .int .i64 t1287])]) (fun s_ w' => (w'.cell? ⟨gb1268, 0, none⟩ = some (.int .i64 a1_0) ∧ w'.cell? ⟨gb1268, 1, none⟩ = some (.int .i64 a1_1) ∧ w'.cell? ⟨gb1268, 2, none⟩ = some (.int .i64 a1_2) ∧ w'.cell? ⟨gb1269, 0, none⟩ = some (.int .i64 a2_0) ∧ w'.cell? ⟨gb1269, 1, none⟩ = some (.int .i64 a2_1) ∧ w'.cell? ⟨gb1270, 0, none⟩ = some (.int .i64 a3_0) ∧ w'.cell? ⟨gb1270, 1, none⟩ = some (.int .i64 a3_1)) ∧ (w'.heap[gb1268]? = some (.cells #[.int .i64 a1_0, .int .i64 a1_1, .int .i64 a1_2] 31 (0, 0))) ∧ (w'.heap[gb1269]? = some (.cells #[.int .i64 a2_0, .int .i64 a2_1] 23 (0, 0))) ∧ (w'.heap[gb1270]? = some (.cells #[.int .i64 a3_0, .int .i64 a3_1] 23 (0, 0))) ∧ (w'.heap[gb1282]? = some (.cells #[.int .i64 t1278, .int .i64 t1279, .int .i64 t1280] 34 (0, 0))) ∧ (Below w.heap.size w w')) ?_ ?_
                rotate_left
                · intro hJ2_4
                  refine join_ (σ := Nat) 8 #[true, true, true, true, false, true, false, false, false, false, false, true, false, false] (fun s_ => [(27, .agg #[.int .i64 t1283, .int .i64 t1284, .int .i64 t1285]), (11, .pointer (some ⟨s_, 0, none⟩))]) (fun s_ w' => (w'.cell? ⟨gb1268, 0, none⟩ = some (.int .i64 a1_0) ∧ w'.cell? ⟨gb1268, 1, none⟩ = some (.int .i64 a1_1) ∧ w'.cell? ⟨gb1268, 2, none⟩ = some (.int .i64 a1_2) ∧ w'.cell? ⟨gb1269, 0, none⟩ = some (.int .i64 a2_0) ∧ w'.cell? ⟨gb1269, 1, none⟩ = some (.int .i64 a2_1) ∧ w'.cell? ⟨gb1270, 0, none⟩ = some (.int .i64 a3_0) ∧ w'.cell? ⟨gb1270, 1, none⟩ = some (.int .i64 a3_1)) ∧ (w'.heap[gb1268]? = some (.cells #[.int .i64 a1_0, .int .i64 a1_1, .int .i64 a1_2] 31 (0, 0))) ∧ (w'.heap[gb1269]? = some (.cells #[.int .i64 a2_0, .int .i64 a2_1] 23 (0, 0))) ∧ (w'.heap[gb1270]? = some (.cells #[.int .i64 a3_0, .int .i64 a3_1] 23 (0, 0))) ∧ (w'.heap[gb1282]? = some (.cells #[.int .i64 t1278, .int .i64 t1279, .int .i64 t1280] 34 (0, 0))) ∧ (w'.heap[s_]? = some (.cells #[.int .i64 0, .int .i64 0, .int .i64 0] 34 (0, 0))) ∧ (w.heap.size ≤ s_) ∧ (w.heap.size ≤ s_) ∧ (gb1268 ≠ s_) ∧ (s_ ≠ gb1268) ∧ (gb1269 ≠ s_) ∧ (s_ ≠ gb1269) ∧ (gb1270 ≠ s_) ∧ (s_ ≠ gb1270) ∧ (gb1282 ≠ s_) ∧ (s_ ≠ gb1282) ∧ (Below w.heap.size w w')) ?_ ?_
                  rotate_left
                  · intro hJ2_11
                    refine join_ (σ := Unit) 9 #[true, true, true, true, false, true, false, false, false, false, false, false, false, false] (fun s_ => [(27, .agg #[.int .i64 t1283, .int .i64 t1284, .int .i64 t1285])]) (fun s_ w' => (w'.cell? ⟨gb1268, 0, none⟩ = some (.int .i64 a1_0) ∧ w'.cell? ⟨gb1268, 1, none⟩ = some (.int .i64 a1_1) ∧ w'.cell? ⟨gb1268, 2, none⟩ = some (.int .i64 a1_2) ∧ w'.cell? ⟨gb1269, 0, none⟩ = some (.int .i64 a2_0) ∧ w'.cell? ⟨gb1269, 1, none⟩ = some (.int .i64 a2_1) ∧ w'.cell? ⟨gb1270, 0, none⟩ = some (.int .i64 a3_0) ∧ w'.cell? ⟨gb1270, 1, none⟩ = some (.int .i64 a3_1)) ∧ (w'.heap[gb1268]? = some (.cells #[.int .i64 a1_0, .int .i64 a1_1, .int .i64 a1_2] 31 (0, 0))) ∧ (w'.heap[gb1269]? = some (.cells #[.int .i64 a2_0, .int .i64 a2_1] 23 (0, 0))) ∧ (w'.heap[gb1270]? = some (.cells #[.int .i64 a3_0, .int .i64 a3_1] 23 (0, 0))) ∧ (w'.heap[gb1282]? = some (.cells #[.int .i64 t1278, .int .i64 t1279, .int .i64 t1280] 34 (0, 0))) ∧ (Below w.heap.size w w')) ?_ ?_
                    rotate_left
                    · intro hJ2
                      refine join_ (σ := Nat) 9 #[true, true, false, true, false, true, false, false, false, false, false, true, false, false] (fun s_ => [(11, .pointer (some ⟨s_, 0, none⟩))]) (fun s_ w' => (w'.cell? ⟨gb1268, 0, none⟩ = some (.int .i64 a1_0) ∧ w'.cell? ⟨gb1268, 1, none⟩ = some (.int .i64 a1_1) ∧ w'.cell? ⟨gb1268, 2, none⟩ = some (.int .i64 a1_2) ∧ w'.cell? ⟨gb1269, 0, none⟩ = some (.int .i64 a2_0) ∧ w'.cell? ⟨gb1269, 1, none⟩ = some (.int .i64 a2_1) ∧ w'.cell? ⟨gb1270, 0, none⟩ = some (.int .i64 a3_0) ∧ w'.cell? ⟨gb1270, 1, none⟩ = some (.int .i64 a3_1)) ∧ (w'.heap[gb1268]? = some (.cells #[.int .i64 a1_0, .int .i64 a1_1, .int .i64 a1_2] 31 (0, 0))) ∧ (w'.heap[gb1269]? = some (.cells #[.int .i64 a2_0, .int .i64 a2_1] 23 (0, 0))) ∧ (w'.heap[gb1270]? = some (.cells #[.int .i64 a3_0, .int .i64 a3_1] 23 (0, 0))) ∧ (w'.heap[gb1282]? = some (.cells #[.int .i64 t1278, .int .i64 t1279, .int .i64 t1280] 34 (0, 0))) ∧ (w'.heap[s_]? = some (.cells #[.int .i64 0, .int .i64 0, .int .i64 0] 34 (0, 0))) ∧ (w.heap.size ≤ s_) ∧ (w.heap.size ≤ s_) ∧ (gb1268 ≠ s_) ∧ (s_ ≠ gb1268) ∧ (gb1269 ≠ s_) ∧ (s_ ≠ gb1269) ∧ (gb1270 ≠ s_) ∧ (s_ ≠ gb1270) ∧ (gb1282 ≠ s_) ∧ (s_ ≠ gb1282) ∧ (Below w.heap.size w w')) ?_ ?_
                      rotate_left
                      · intro hJ11
                        refine two_ (i := 2) (j := 11) (Ni := some 27) (Nj := some 11) #[true, true, true, true, false, true, false, false, false, false, false, false, false, false] #[true, true, false, true, false, true, false, false, false, false, false, true, false, false] rfl rfl rfl rfl (two_of HT_.out (by kernel_rfl)) (by decide) (by decide) (fun K hK => ?_) (fun K hK => ?_)
                        · skip
                          refine goes_ Try.func20 (by kernel_rfl) rfl #[.agg #[.int .i64 a1_0, .int .i64 a1_1, .int .i64 a1_2]] (by rfl) rfl rfl (by (try simp only [List.map_toArray, List.map_cons, List.map_nil]); first | done | rfl | (simp only [List.length_drop, List.length_take]; rfl)) ?_
                          with_reducible refine (laws_toBall.calls a1_0 a1_1 a1_2 t1283 t1284 t1285 _ A9.out).mono ?_
                          rintro e w31 ⟨rfl, hb⟩
                          refine ⟨_, rfl, ?_⟩
                          have n0_ := Aside0.mk (blk_below (bkA BK1268) hb)
                          have n1_ := Aside0.mk (blk_below (bkA BK1269) hb)
                          have n2_ := Aside0.mk (blk_below (bkA BK1270) hb)
                          have n3_ := Aside0.mk (blk_below (bkA BK1282) hb)
                          have n4_ := Aside0.mk (below_step blA hb)
                          clear BK1268
                          clear BK1269
                          clear BK1270
                          clear BK1282
                          clear HB
                          have BK1268 := n0_
                          have BK1269 := n1_
                          have BK1270 := n2_
                          have BK1282 := n3_
                          have HB := n4_
                          clear n0_ n1_ n2_ n3_ n4_
                          (try clear hb)
                          (try clear hb2)
                          (try clear hk)
                          (try clear hi)
                          refine hK.out _ _ ⟨(blk_cell BK1268.out 0).trans rfl, (blk_cell BK1268.out 1).trans rfl, (blk_cell BK1268.out 2).trans rfl, (blk_cell BK1269.out 0).trans rfl, (blk_cell BK1269.out 1).trans rfl, (blk_cell BK1270.out 0).trans rfl, (blk_cell BK1270.out 1).trans rfl⟩ (fun hHeld => ?_)
                          clear hK K
                          refine norm_ (a' := ?_) ?_ ?_
                          rotate_left
                          · show Act.put _ (some 27) _ = _
                            simp only [Act.put, List.setIfInBounds_toArray, List.set_cons_zero, List.set_cons_succ, i64_w, i32_w]
                            rfl
                          exact norm_ (by first | (simp only [putAll, Act.put, List.setIfInBounds_toArray, List.set_cons_zero, List.set_cons_succ]; done) | (simp only [putAll, Act.put, List.setIfInBounds_toArray, List.set_cons_zero, List.set_cons_succ]; rfl)) (hJ2 () _ ⟨hHeld, (bkA BK1268), (bkA BK1269), (bkA BK1270), (bkA BK1282), blA⟩)
                        · skip
                          refine box_step ?hg (N := 11) ?hd (cs := #[.int .i64 0, .int .i64 0, .int .i64 0]) (t := 34) ?hr ?_; (case hd => rfl); (case hg => rfl); (case hr => first | (go_simp; done) | (go_simp; rfl))
                          intro gb1294 hg w31 hbox hb
                          have n0_ := Aside0.mk (blk_below (bkA BK1268) hb)
                          have n1_ := Aside0.mk (blk_below (bkA BK1269) hb)
                          have n2_ := Aside0.mk (blk_below (bkA BK1270) hb)
                          have n3_ := Aside0.mk (blk_below (bkA BK1282) hb)
                          have n4_ := Aside0.mk (below_step blA hb)
                          have n5_ := Aside0.mk (hbox)
                          have n6_ := Aside0.mk (szA hg blA)
                          have n7_ := Aside0.mk (szA hg blA)
                          have n8_ := Aside0.mk (neA hg (bkA BK1268))
                          have n9_ := Aside0.mk (neB hg (bkA BK1268))
                          have n10_ := Aside0.mk (neA hg (bkA BK1269))
                          have n11_ := Aside0.mk (neB hg (bkA BK1269))
                          have n12_ := Aside0.mk (neA hg (bkA BK1270))
                          have n13_ := Aside0.mk (neB hg (bkA BK1270))
                          have n14_ := Aside0.mk (neA hg (bkA BK1282))
                          have n15_ := Aside0.mk (neB hg (bkA BK1282))
                          clear BK1268
                          clear BK1269
                          clear BK1270
                          clear BK1282
                          clear HB
                          have BK1268 := n0_
                          have BK1269 := n1_
                          have BK1270 := n2_
                          have BK1282 := n3_
                          have HB := n4_
                          have BK1294 := n5_
                          have GW1294 := n6_
                          have GE1294 := n7_
                          have NB1268_1294 := n8_
                          have NB1294_1268 := n9_
                          have NB1269_1294 := n10_
                          have NB1294_1269 := n11_
                          have NB1270_1294 := n12_
                          have NB1294_1270 := n13_
                          have NB1282_1294 := n14_
                          have NB1294_1282 := n15_
                          clear n0_ n1_ n2_ n3_ n4_ n5_ n6_ n7_ n8_ n9_ n10_ n11_ n12_ n13_ n14_ n15_
                          clear hb hbox hg
                          refine hK.out _ _ ⟨(blk_cell BK1268.out 0).trans rfl, (blk_cell BK1268.out 1).trans rfl, (blk_cell BK1268.out 2).trans rfl, (blk_cell BK1269.out 0).trans rfl, (blk_cell BK1269.out 1).trans rfl, (blk_cell BK1270.out 0).trans rfl, (blk_cell BK1270.out 1).trans rfl⟩ (fun hHeld => ?_)
                          clear hK K
                          refine norm_ (a' := ?_) ?_ ?_
                          rotate_left
                          · show Act.put _ (some 11) _ = _
                            simp only [Act.put, List.setIfInBounds_toArray, List.set_cons_zero, List.set_cons_succ, i64_w, i32_w]
                            rfl
                          exact norm_ (by first | (simp only [putAll, Act.put, List.setIfInBounds_toArray, List.set_cons_zero, List.set_cons_succ]; done) | (simp only [putAll, Act.put, List.setIfInBounds_toArray, List.set_cons_zero, List.set_cons_succ]; rfl)) (hJ11 (gb1294) _ ⟨hHeld, (bkA BK1268), (bkA BK1269), (bkA BK1270), (bkA BK1282), (bkA BK1294), GW1294.out, GE1294.out, NB1268_1294.out, NB1294_1268.out, NB1269_1294.out, NB1294_1269.out, NB1270_1294.out, NB1294_1270.out, NB1282_1294.out, NB1294_1282.out, blA⟩)
                      · skip
                        rintro gb1294 w32 ⟨hS_, h0_, h1_, h2_, h3_, h4_, h5_, h6_, h7_, h8_, h9_, h10_, h11_, h12_, h13_, h14_, h15_⟩
                        have n0_ : Aside0 (w32.heap[gb1268]? = some (.cells #[.int .i64 a1_0, .int .i64 a1_1, .int .i64 a1_2] 31 (0, 0))) := ⟨h0_⟩
                        have n1_ : Aside0 (w32.heap[gb1269]? = some (.cells #[.int .i64 a2_0, .int .i64 a2_1] 23 (0, 0))) := ⟨h1_⟩
                        have n2_ : Aside0 (w32.heap[gb1270]? = some (.cells #[.int .i64 a3_0, .int .i64 a3_1] 23 (0, 0))) := ⟨h2_⟩
                        have n3_ : Aside0 (w32.heap[gb1282]? = some (.cells #[.int .i64 t1278, .int .i64 t1279, .int .i64 t1280] 34 (0, 0))) := ⟨h3_⟩
                        have n4_ : Aside0 (w32.heap[gb1294]? = some (.cells #[.int .i64 0, .int .i64 0, .int .i64 0] 34 (0, 0))) := ⟨h4_⟩
                        have n5_ : Aside0 (w.heap.size ≤ gb1294) := ⟨h5_⟩
                        have n6_ : Aside0 (w.heap.size ≤ gb1294) := ⟨h6_⟩
                        have n7_ : Aside0 (gb1268 ≠ gb1294) := ⟨h7_⟩
                        have n8_ : Aside0 (gb1294 ≠ gb1268) := ⟨h8_⟩
                        have n9_ : Aside0 (gb1269 ≠ gb1294) := ⟨h9_⟩
                        have n10_ : Aside0 (gb1294 ≠ gb1269) := ⟨h10_⟩
                        have n11_ : Aside0 (gb1270 ≠ gb1294) := ⟨h11_⟩
                        have n12_ : Aside0 (gb1294 ≠ gb1270) := ⟨h12_⟩
                        have n13_ : Aside0 (gb1282 ≠ gb1294) := ⟨h13_⟩
                        have n14_ : Aside0 (gb1294 ≠ gb1282) := ⟨h14_⟩
                        have n15_ : Aside0 (Below w.heap.size w w32) := ⟨h15_⟩
                        clear BK1268
                        clear BK1269
                        clear BK1270
                        clear BK1282
                        clear HB
                        clear h0_ h1_ h2_ h3_ h4_ h5_ h6_ h7_ h8_ h9_ h10_ h11_ h12_ h13_ h14_ h15_
                        have BK1268 := n0_
                        have BK1269 := n1_
                        have BK1270 := n2_
                        have BK1282 := n3_
                        have BK1294 := n4_
                        have GW1294 := n5_
                        have GE1294 := n6_
                        have NB1268_1294 := n7_
                        have NB1294_1268 := n8_
                        have NB1269_1294 := n9_
                        have NB1294_1269 := n10_
                        have NB1270_1294 := n11_
                        have NB1294_1270 := n12_
                        have NB1282_1294 := n13_
                        have NB1294_1282 := n14_
                        have HB := n15_
                        clear n0_ n1_ n2_ n3_ n4_ n5_ n6_ n7_ n8_ n9_ n10_ n11_ n12_ n13_ n14_ n15_
                        have hHeld : w32.cell? ⟨gb1268, 0, none⟩ = some (.int .i64 a1_0) ∧ w32.cell? ⟨gb1268, 1, none⟩ = some (.int .i64 a1_1) ∧ w32.cell? ⟨gb1268, 2, none⟩ = some (.int .i64 a1_2) ∧ w32.cell? ⟨gb1269, 0, none⟩ = some (.int .i64 a2_0) ∧ w32.cell? ⟨gb1269, 1, none⟩ = some (.int .i64 a2_1) ∧ w32.cell? ⟨gb1270, 0, none⟩ = some (.int .i64 a3_0) ∧ w32.cell? ⟨gb1270, 1, none⟩ = some (.int .i64 a3_1) := hS_
                        refine norm_ (a' := ?_) ?_ ?_
                        rotate_left
                        · simp only [putAll, Act.put, List.setIfInBounds_toArray, List.set_cons_zero, List.set_cons_succ]
                          rfl
                        refine one_ (i := 2) (N := some 27) #[true, true, true, true, false, true, false, false, false, false, false, true, false, false] rfl rfl (one_of HT_.out (by kernel_rfl)) (by decide) (fun K hK => ?_)
                        refine goes_ Try.func20 (by kernel_rfl) rfl #[.agg #[.int .i64 a1_0, .int .i64 a1_1, .int .i64 a1_2]] (by rfl) rfl rfl (by (try simp only [List.map_toArray, List.map_cons, List.map_nil]); first | done | rfl | (simp only [List.length_drop, List.length_take]; rfl)) ?_
                        with_reducible refine (laws_toBall.calls a1_0 a1_1 a1_2 t1283 t1284 t1285 _ A9.out).mono ?_
                        rintro e w33 ⟨rfl, hb⟩
                        refine ⟨_, rfl, ?_⟩
                        have n0_ := Aside0.mk (blk_below (bkA BK1268) hb)
                        have n1_ := Aside0.mk (blk_below (bkA BK1269) hb)
                        have n2_ := Aside0.mk (blk_below (bkA BK1270) hb)
                        have n3_ := Aside0.mk (blk_below (bkA BK1282) hb)
                        have n4_ := Aside0.mk (blk_below (bkA BK1294) hb)
                        have n5_ := Aside0.mk (below_step blA hb)
                        clear BK1268
                        clear BK1269
                        clear BK1270
                        clear BK1282
                        clear BK1294
                        clear HB
                        have BK1268 := n0_
                        have BK1269 := n1_
                        have BK1270 := n2_
                        have BK1282 := n3_
                        have BK1294 := n4_
                        have HB := n5_
                        clear n0_ n1_ n2_ n3_ n4_ n5_
                        (try clear hb)
                        (try clear hb2)
                        (try clear hk)
                        (try clear hi)
                        refine hK.out _ _ ⟨(blk_cell BK1268.out 0).trans rfl, (blk_cell BK1268.out 1).trans rfl, (blk_cell BK1268.out 2).trans rfl, (blk_cell BK1269.out 0).trans rfl, (blk_cell BK1269.out 1).trans rfl, (blk_cell BK1270.out 0).trans rfl, (blk_cell BK1270.out 1).trans rfl⟩ (fun hHeld => ?_)
                        clear hK K
                        refine norm_ (a' := ?_) ?_ ?_
                        rotate_left
                        · show Act.put _ (some 27) _ = _
                          simp only [Act.put, List.setIfInBounds_toArray, List.set_cons_zero, List.set_cons_succ, i64_w, i32_w]
                          rfl
                        exact norm_ (by first | (simp only [putAll, Act.put, List.setIfInBounds_toArray, List.set_cons_zero, List.set_cons_succ]; done) | (simp only [putAll, Act.put, List.setIfInBounds_toArray, List.set_cons_zero, List.set_cons_succ]; rfl)) (hJ2_11 (gb1294) _ ⟨hHeld, (bkA BK1268), (bkA BK1269), (bkA BK1270), (bkA BK1282), (bkA BK1294), GW1294.out, GE1294.out, NB1268_1294.out, NB1294_1268.out, NB1269_1294.out, NB1294_1269.out, NB1270_1294.out, NB1294_1270.out, NB1282_1294.out, NB1294_1282.out, blA⟩)
                    · skip
                      rintro _ w32 ⟨hS_, h0_, h1_, h2_, h3_, h4_⟩
                      have n0_ : Aside0 (w32.heap[gb1268]? = some (.cells #[.int .i64 a1_0, .int .i64 a1_1, .int .i64 a1_2] 31 (0, 0))) := ⟨h0_⟩
                      have n1_ : Aside0 (w32.heap[gb1269]? = some (.cells #[.int .i64 a2_0, .int .i64 a2_1] 23 (0, 0))) := ⟨h1_⟩
                      have n2_ : Aside0 (w32.heap[gb1270]? = some (.cells #[.int .i64 a3_0, .int .i64 a3_1] 23 (0, 0))) := ⟨h2_⟩
                      have n3_ : Aside0 (w32.heap[gb1282]? = some (.cells #[.int .i64 t1278, .int .i64 t1279, .int .i64 t1280] 34 (0, 0))) := ⟨h3_⟩
                      have n4_ : Aside0 (Below w.heap.size w w32) := ⟨h4_⟩
                      clear BK1268
                      clear BK1269
                      clear BK1270
                      clear BK1282
                      clear HB
                      clear h0_ h1_ h2_ h3_ h4_
                      have BK1268 := n0_
                      have BK1269 := n1_
                      have BK1270 := n2_
                      have BK1282 := n3_
                      have HB := n4_
                      clear n0_ n1_ n2_ n3_ n4_
                      have hHeld : w32.cell? ⟨gb1268, 0, none⟩ = some (.int .i64 a1_0) ∧ w32.cell? ⟨gb1268, 1, none⟩ = some (.int .i64 a1_1) ∧ w32.cell? ⟨gb1268, 2, none⟩ = some (.int .i64 a1_2) ∧ w32.cell? ⟨gb1269, 0, none⟩ = some (.int .i64 a2_0) ∧ w32.cell? ⟨gb1269, 1, none⟩ = some (.int .i64 a2_1) ∧ w32.cell? ⟨gb1270, 0, none⟩ = some (.int .i64 a3_0) ∧ w32.cell? ⟨gb1270, 1, none⟩ = some (.int .i64 a3_1) := hS_
                      refine norm_ (a' := ?_) ?_ ?_
                      rotate_left
                      · simp only [putAll, Act.put, List.setIfInBounds_toArray, List.set_cons_zero, List.set_cons_succ]
                        rfl
                      refine two_ (i := 4) (j := 11) (Ni := some 29) (Nj := some 11) #[true, true, true, true, true, true, false, false, false, false, false, false, false, false] #[true, true, true, true, false, true, false, false, false, false, false, true, false, false] rfl rfl rfl rfl (two_of HT_.out (by kernel_rfl)) (by decide) (by decide) (fun K hK => ?_) (fun K hK => ?_)
                      · skip
                        refine goes_ Try.func16 (by kernel_rfl) rfl #[.agg #[.int .i64 a2_0, .int .i64 a2_1]] (by rfl) rfl rfl (by (try simp only [List.map_toArray, List.map_cons, List.map_nil]); first | done | rfl | (simp only [List.length_drop, List.length_take]; rfl)) ?_
                        with_reducible refine (laws_toEnd.calls a2_0 a2_1 t1286 t1287 _ A10.out).mono ?_
                        rintro e w33 ⟨rfl, hb⟩
                        refine ⟨_, rfl, ?_⟩
                        have n0_ := Aside0.mk (blk_below (bkA BK1268) hb)
                        have n1_ := Aside0.mk (blk_below (bkA BK1269) hb)
                        have n2_ := Aside0.mk (blk_below (bkA BK1270) hb)
                        have n3_ := Aside0.mk (blk_below (bkA BK1282) hb)
                        have n4_ := Aside0.mk (below_step blA hb)
                        clear BK1268
                        clear BK1269
                        clear BK1270
                        clear BK1282
                        clear HB
                        have BK1268 := n0_
                        have BK1269 := n1_
                        have BK1270 := n2_
                        have BK1282 := n3_
                        have HB := n4_
                        clear n0_ n1_ n2_ n3_ n4_
                        (try clear hb)
                        (try clear hb2)
                        (try clear hk)
                        (try clear hi)
                        refine hK.out _ _ ⟨(blk_cell BK1268.out 0).trans rfl, (blk_cell BK1268.out 1).trans rfl, (blk_cell BK1268.out 2).trans rfl, (blk_cell BK1269.out 0).trans rfl, (blk_cell BK1269.out 1).trans rfl, (blk_cell BK1270.out 0).trans rfl, (blk_cell BK1270.out 1).trans rfl⟩ (fun hHeld => ?_)
                        clear hK K
                        refine norm_ (a' := ?_) ?_ ?_
                        rotate_left
                        · show Act.put _ (some 29) _ = _
                          simp only [Act.put, List.setIfInBounds_toArray, List.set_cons_zero, List.set_cons_succ, i64_w, i32_w]
                          rfl
                        exact norm_ (by first | (simp only [putAll, Act.put, List.setIfInBounds_toArray, List.set_cons_zero, List.set_cons_succ]; done) | (simp only [putAll, Act.put, List.setIfInBounds_toArray, List.set_cons_zero, List.set_cons_succ]; rfl)) (hJ2_4 () _ ⟨hHeld, (bkA BK1268), (bkA BK1269), (bkA BK1270), (bkA BK1282), blA⟩)
                      · skip
                        refine box_step ?hg (N := 11) ?hd (cs := #[.int .i64 0, .int .i64 0, .int .i64 0]) (t := 34) ?hr ?_; (case hd => rfl); (case hg => rfl); (case hr => first | (go_simp; done) | (go_simp; rfl))
                        intro gb1294 hg w33 hbox hb
                        have n0_ := Aside0.mk (blk_below (bkA BK1268) hb)
                        have n1_ := Aside0.mk (blk_below (bkA BK1269) hb)
                        have n2_ := Aside0.mk (blk_below (bkA BK1270) hb)
                        have n3_ := Aside0.mk (blk_below (bkA BK1282) hb)
                        have n4_ := Aside0.mk (below_step blA hb)
                        have n5_ := Aside0.mk (hbox)
                        have n6_ := Aside0.mk (szA hg blA)
                        have n7_ := Aside0.mk (szA hg blA)
                        have n8_ := Aside0.mk (neA hg (bkA BK1268))
                        have n9_ := Aside0.mk (neB hg (bkA BK1268))
                        have n10_ := Aside0.mk (neA hg (bkA BK1269))
                        have n11_ := Aside0.mk (neB hg (bkA BK1269))
                        have n12_ := Aside0.mk (neA hg (bkA BK1270))
                        have n13_ := Aside0.mk (neB hg (bkA BK1270))
                        have n14_ := Aside0.mk (neA hg (bkA BK1282))
                        have n15_ := Aside0.mk (neB hg (bkA BK1282))
                        clear BK1268
                        clear BK1269
                        clear BK1270
                        clear BK1282
                        clear HB
                        have BK1268 := n0_
                        have BK1269 := n1_
                        have BK1270 := n2_
                        have BK1282 := n3_
                        have HB := n4_
                        have BK1294 := n5_
                        have GW1294 := n6_
                        have GE1294 := n7_
                        have NB1268_1294 := n8_
                        have NB1294_1268 := n9_
                        have NB1269_1294 := n10_
                        have NB1294_1269 := n11_
                        have NB1270_1294 := n12_
                        have NB1294_1270 := n13_
                        have NB1282_1294 := n14_
                        have NB1294_1282 := n15_
                        clear n0_ n1_ n2_ n3_ n4_ n5_ n6_ n7_ n8_ n9_ n10_ n11_ n12_ n13_ n14_ n15_
                        clear hb hbox hg
                        refine hK.out _ _ ⟨(blk_cell BK1268.out 0).trans rfl, (blk_cell BK1268.out 1).trans rfl, (blk_cell BK1268.out 2).trans rfl, (blk_cell BK1269.out 0).trans rfl, (blk_cell BK1269.out 1).trans rfl, (blk_cell BK1270.out 0).trans rfl, (blk_cell BK1270.out 1).trans rfl⟩ (fun hHeld => ?_)
                        clear hK K
                        refine norm_ (a' := ?_) ?_ ?_
                        rotate_left
                        · show Act.put _ (some 11) _ = _
                          simp only [Act.put, List.setIfInBounds_toArray, List.set_cons_zero, List.set_cons_succ, i64_w, i32_w]
                          rfl
                        exact norm_ (by first | (simp only [putAll, Act.put, List.setIfInBounds_toArray, List.set_cons_zero, List.set_cons_succ]; done) | (simp only [putAll, Act.put, List.setIfInBounds_toArray, List.set_cons_zero, List.set_cons_succ]; rfl)) (hJ2_11 (gb1294) _ ⟨hHeld, (bkA BK1268), (bkA BK1269), (bkA BK1270), (bkA BK1282), (bkA BK1294), GW1294.out, GE1294.out, NB1268_1294.out, NB1294_1268.out, NB1269_1294.out, NB1294_1269.out, NB1270_1294.out, NB1294_1270.out, NB1282_1294.out, NB1294_1282.out, blA⟩)
                  · skip
                    rintro gb1294 w33 ⟨hS_, h0_, h1_, h2_, h3_, h4_, h5_, h6_, h7_, h8_, h9_, h10_, h11_, h12_, h13_, h14_, h15_⟩
                    have n0_ : Aside0 (w33.heap[gb1268]? = some (.cells #[.int .i64 a1_0, .int .i64 a1_1, .int .i64 a1_2] 31 (0, 0))) := ⟨h0_⟩
                    have n1_ : Aside0 (w33.heap[gb1269]? = some (.cells #[.int .i64 a2_0, .int .i64 a2_1] 23 (0, 0))) := ⟨h1_⟩
                    have n2_ : Aside0 (w33.heap[gb1270]? = some (.cells #[.int .i64 a3_0, .int .i64 a3_1] 23 (0, 0))) := ⟨h2_⟩
                    have n3_ : Aside0 (w33.heap[gb1282]? = some (.cells #[.int .i64 t1278, .int .i64 t1279, .int .i64 t1280] 34 (0, 0))) := ⟨h3_⟩
                    have n4_ : Aside0 (w33.heap[gb1294]? = some (.cells #[.int .i64 0, .int .i64 0, .int .i64 0] 34 (0, 0))) := ⟨h4_⟩
                    have n5_ : Aside0 (w.heap.size ≤ gb1294) := ⟨h5_⟩
                    have n6_ : Aside0 (w.heap.size ≤ gb1294) := ⟨h6_⟩
                    have n7_ : Aside0 (gb1268 ≠ gb1294) := ⟨h7_⟩
                    have n8_ : Aside0 (gb1294 ≠ gb1268) := ⟨h8_⟩
                    have n9_ : Aside0 (gb1269 ≠ gb1294) := ⟨h9_⟩
                    have n10_ : Aside0 (gb1294 ≠ gb1269) := ⟨h10_⟩
                    have n11_ : Aside0 (gb1270 ≠ gb1294) := ⟨h11_⟩
                    have n12_ : Aside0 (gb1294 ≠ gb1270) := ⟨h12_⟩
                    have n13_ : Aside0 (gb1282 ≠ gb1294) := ⟨h13_⟩
                    have n14_ : Aside0 (gb1294 ≠ gb1282) := ⟨h14_⟩
                    have n15_ : Aside0 (Below w.heap.size w w33) := ⟨h15_⟩
                    clear BK1268
                    clear BK1269
                    clear BK1270
                    clear BK1282
                    clear HB
                    clear h0_ h1_ h2_ h3_ h4_ h5_ h6_ h7_ h8_ h9_ h10_ h11_ h12_ h13_ h14_ h15_
                    have BK1268 := n0_
                    have BK1269 := n1_
                    have BK1270 := n2_
                    have BK1282 := n3_
                    have BK1294 := n4_
                    have GW1294 := n5_
                    have GE1294 := n6_
                    have NB1268_1294 := n7_
                    have NB1294_1268 := n8_
                    have NB1269_1294 := n9_
                    have NB1294_1269 := n10_
                    have NB1270_1294 := n11_
                    have NB1294_1270 := n12_
                    have NB1282_1294 := n13_
                    have NB1294_1282 := n14_
                    have HB := n15_
                    clear n0_ n1_ n2_ n3_ n4_ n5_ n6_ n7_ n8_ n9_ n10_ n11_ n12_ n13_ n14_ n15_
                    have hHeld : w33.cell? ⟨gb1268, 0, none⟩ = some (.int .i64 a1_0) ∧ w33.cell? ⟨gb1268, 1, none⟩ = some (.int .i64 a1_1) ∧ w33.cell? ⟨gb1268, 2, none⟩ = some (.int .i64 a1_2) ∧ w33.cell? ⟨gb1269, 0, none⟩ = some (.int .i64 a2_0) ∧ w33.cell? ⟨gb1269, 1, none⟩ = some (.int .i64 a2_1) ∧ w33.cell? ⟨gb1270, 0, none⟩ = some (.int .i64 a3_0) ∧ w33.cell? ⟨gb1270, 1, none⟩ = some (.int .i64 a3_1) := hS_
                    refine norm_ (a' := ?_) ?_ ?_
                    rotate_left
                    · simp only [putAll, Act.put, List.setIfInBounds_toArray, List.set_cons_zero, List.set_cons_succ]
                      rfl
                    refine one_ (i := 4) (N := some 29) #[true, true, true, true, true, true, false, false, false, false, false, true, false, false] rfl rfl (one_of HT_.out (by kernel_rfl)) (by decide) (fun K hK => ?_)
                    refine goes_ Try.func16 (by kernel_rfl) rfl #[.agg #[.int .i64 a2_0, .int .i64 a2_1]] (by rfl) rfl rfl (by (try simp only [List.map_toArray, List.map_cons, List.map_nil]); first | done | rfl | (simp only [List.length_drop, List.length_take]; rfl)) ?_
                    with_reducible refine (laws_toEnd.calls a2_0 a2_1 t1286 t1287 _ A10.out).mono ?_
                    rintro e w34 ⟨rfl, hb⟩
                    refine ⟨_, rfl, ?_⟩
                    have n0_ := Aside0.mk (blk_below (bkA BK1268) hb)
                    have n1_ := Aside0.mk (blk_below (bkA BK1269) hb)
                    have n2_ := Aside0.mk (blk_below (bkA BK1270) hb)
                    have n3_ := Aside0.mk (blk_below (bkA BK1282) hb)
                    have n4_ := Aside0.mk (blk_below (bkA BK1294) hb)
                    have n5_ := Aside0.mk (below_step blA hb)
                    clear BK1268
                    clear BK1269
                    clear BK1270
                    clear BK1282
                    clear BK1294
                    clear HB
                    have BK1268 := n0_
                    have BK1269 := n1_
                    have BK1270 := n2_
                    have BK1282 := n3_
                    have BK1294 := n4_
                    have HB := n5_
                    clear n0_ n1_ n2_ n3_ n4_ n5_
                    (try clear hb)
                    (try clear hb2)
                    (try clear hk)
                    (try clear hi)
                    refine hK.out _ _ ⟨(blk_cell BK1268.out 0).trans rfl, (blk_cell BK1268.out 1).trans rfl, (blk_cell BK1268.out 2).trans rfl, (blk_cell BK1269.out 0).trans rfl, (blk_cell BK1269.out 1).trans rfl, (blk_cell BK1270.out 0).trans rfl, (blk_cell BK1270.out 1).trans rfl⟩ (fun hHeld => ?_)
                    clear hK K
                    refine norm_ (a' := ?_) ?_ ?_
                    rotate_left
                    · show Act.put _ (some 29) _ = _
                      simp only [Act.put, List.setIfInBounds_toArray, List.set_cons_zero, List.set_cons_succ, i64_w, i32_w]
                      rfl
                    exact norm_ (by first | (simp only [putAll, Act.put, List.setIfInBounds_toArray, List.set_cons_zero, List.set_cons_succ]; done) | (simp only [putAll, Act.put, List.setIfInBounds_toArray, List.set_cons_zero, List.set_cons_succ]; rfl)) (hJ2_4_11 (gb1294) _ ⟨hHeld, (bkA BK1268), (bkA BK1269), (bkA BK1270), (bkA BK1282), (bkA BK1294), GW1294.out, GE1294.out, NB1268_1294.out, NB1294_1268.out, NB1269_1294.out, NB1294_1269.out, NB1270_1294.out, NB1294_1270.out, NB1282_1294.out, NB1294_1282.out, blA⟩)
                · skip
                  rintro _ w33 ⟨hS_, h0_, h1_, h2_, h3_, h4_⟩
                  have n0_ : Aside0 (w33.heap[gb1268]? = some (.cells #[.int .i64 a1_0, .int .i64 a1_1, .int .i64 a1_2] 31 (0, 0))) := ⟨h0_⟩
                  have n1_ : Aside0 (w33.heap[gb1269]? = some (.cells #[.int .i64 a2_0, .int .i64 a2_1] 23 (0, 0))) := ⟨h1_⟩
                  have n2_ : Aside0 (w33.heap[gb1270]? = some (.cells #[.int .i64 a3_0, .int .i64 a3_1] 23 (0, 0))) := ⟨h2_⟩
                  have n3_ : Aside0 (w33.heap[gb1282]? = some (.cells #[.int .i64 t1278, .int .i64 t1279, .int .i64 t1280] 34 (0, 0))) := ⟨h3_⟩
                  have n4_ : Aside0 (Below w.heap.size w w33) := ⟨h4_⟩
                  clear BK1268
                  clear BK1269
                  clear BK1270
                  clear BK1282
                  clear HB
                  clear h0_ h1_ h2_ h3_ h4_
                  have BK1268 := n0_
                  have BK1269 := n1_
                  have BK1270 := n2_
                  have BK1282 := n3_
                  have HB := n4_
                  clear n0_ n1_ n2_ n3_ n4_
                  have hHeld : w33.cell? ⟨gb1268, 0, none⟩ = some (.int .i64 a1_0) ∧ w33.cell? ⟨gb1268, 1, none⟩ = some (.int .i64 a1_1) ∧ w33.cell? ⟨gb1268, 2, none⟩ = some (.int .i64 a1_2) ∧ w33.cell? ⟨gb1269, 0, none⟩ = some (.int .i64 a2_0) ∧ w33.cell? ⟨gb1269, 1, none⟩ = some (.int .i64 a2_1) ∧ w33.cell? ⟨gb1270, 0, none⟩ = some (.int .i64 a3_0) ∧ w33.cell? ⟨gb1270, 1, none⟩ = some (.int .i64 a3_1) := hS_
                  refine norm_ (a' := ?_) ?_ ?_
                  rotate_left
                  · simp only [putAll, Act.put, List.setIfInBounds_toArray, List.set_cons_zero, List.set_cons_succ]
                    rfl
                  refine two_ (i := 6) (j := 11) (Ni := some 31) (Nj := some 11) #[true, true, true, true, true, true, true, false, false, false, false, false, false, false] #[true, true, true, true, true, true, false, false, false, false, false, true, false, false] rfl rfl rfl rfl (two_of HT_.out (by kernel_rfl)) (by decide) (by decide) (fun K hK => ?_) (fun K hK => ?_)
                  · skip
                    refine goes_ Try.func16 (by kernel_rfl) rfl #[.agg #[.int .i64 a3_0, .int .i64 a3_1]] (by rfl) rfl rfl (by (try simp only [List.map_toArray, List.map_cons, List.map_nil]); first | done | rfl | (simp only [List.length_drop, List.length_take]; rfl)) ?_
                    with_reducible refine (laws_toEnd.calls a3_0 a3_1 t1288 t1289 _ A11.out).mono ?_
                    rintro e w34 ⟨rfl, hb⟩
                    refine ⟨_, rfl, ?_⟩
                    have n0_ := Aside0.mk (blk_below (bkA BK1268) hb)
                    have n1_ := Aside0.mk (blk_below (bkA BK1269) hb)
                    have n2_ := Aside0.mk (blk_below (bkA BK1270) hb)
                    have n3_ := Aside0.mk (blk_below (bkA BK1282) hb)
                    have n4_ := Aside0.mk (below_step blA hb)
                    clear BK1268
                    clear BK1269
                    clear BK1270
                    clear BK1282
                    clear HB
                    have BK1268 := n0_
                    have BK1269 := n1_
                    have BK1270 := n2_
                    have BK1282 := n3_
                    have HB := n4_
                    clear n0_ n1_ n2_ n3_ n4_
                    (try clear hb)
                    (try clear hb2)
                    (try clear hk)
                    (try clear hi)
                    refine hK.out _ _ ⟨(blk_cell BK1268.out 0).trans rfl, (blk_cell BK1268.out 1).trans rfl, (blk_cell BK1268.out 2).trans rfl, (blk_cell BK1269.out 0).trans rfl, (blk_cell BK1269.out 1).trans rfl, (blk_cell BK1270.out 0).trans rfl, (blk_cell BK1270.out 1).trans rfl⟩ (fun hHeld => ?_)
                    clear hK K
                    refine norm_ (a' := ?_) ?_ ?_
                    rotate_left
                    · show Act.put _ (some 31) _ = _
                      simp only [Act.put, List.setIfInBounds_toArray, List.set_cons_zero, List.set_cons_succ, i64_w, i32_w]
                      rfl
                    exact norm_ (by first | (simp only [putAll, Act.put, List.setIfInBounds_toArray, List.set_cons_zero, List.set_cons_succ]; done) | (simp only [putAll, Act.put, List.setIfInBounds_toArray, List.set_cons_zero, List.set_cons_succ]; rfl)) (hJ2_4_6 () _ ⟨hHeld, (bkA BK1268), (bkA BK1269), (bkA BK1270), (bkA BK1282), blA⟩)
                  · skip
                    refine box_step ?hg (N := 11) ?hd (cs := #[.int .i64 0, .int .i64 0, .int .i64 0]) (t := 34) ?hr ?_; (case hd => rfl); (case hg => rfl); (case hr => first | (go_simp; done) | (go_simp; rfl))
                    intro gb1294 hg w34 hbox hb
                    have n0_ := Aside0.mk (blk_below (bkA BK1268) hb)
                    have n1_ := Aside0.mk (blk_below (bkA BK1269) hb)
                    have n2_ := Aside0.mk (blk_below (bkA BK1270) hb)
                    have n3_ := Aside0.mk (blk_below (bkA BK1282) hb)
                    have n4_ := Aside0.mk (below_step blA hb)
                    have n5_ := Aside0.mk (hbox)
                    have n6_ := Aside0.mk (szA hg blA)
                    have n7_ := Aside0.mk (szA hg blA)
                    have n8_ := Aside0.mk (neA hg (bkA BK1268))
                    have n9_ := Aside0.mk (neB hg (bkA BK1268))
                    have n10_ := Aside0.mk (neA hg (bkA BK1269))
                    have n11_ := Aside0.mk (neB hg (bkA BK1269))
                    have n12_ := Aside0.mk (neA hg (bkA BK1270))
                    have n13_ := Aside0.mk (neB hg (bkA BK1270))
                    have n14_ := Aside0.mk (neA hg (bkA BK1282))
                    have n15_ := Aside0.mk (neB hg (bkA BK1282))
                    clear BK1268
                    clear BK1269
                    clear BK1270
                    clear BK1282
                    clear HB
                    have BK1268 := n0_
                    have BK1269 := n1_
                    have BK1270 := n2_
                    have BK1282 := n3_
                    have HB := n4_
                    have BK1294 := n5_
                    have GW1294 := n6_
                    have GE1294 := n7_
                    have NB1268_1294 := n8_
                    have NB1294_1268 := n9_
                    have NB1269_1294 := n10_
                    have NB1294_1269 := n11_
                    have NB1270_1294 := n12_
                    have NB1294_1270 := n13_
                    have NB1282_1294 := n14_
                    have NB1294_1282 := n15_
                    clear n0_ n1_ n2_ n3_ n4_ n5_ n6_ n7_ n8_ n9_ n10_ n11_ n12_ n13_ n14_ n15_
                    clear hb hbox hg
                    refine hK.out _ _ ⟨(blk_cell BK1268.out 0).trans rfl, (blk_cell BK1268.out 1).trans rfl, (blk_cell BK1268.out 2).trans rfl, (blk_cell BK1269.out 0).trans rfl, (blk_cell BK1269.out 1).trans rfl, (blk_cell BK1270.out 0).trans rfl, (blk_cell BK1270.out 1).trans rfl⟩ (fun hHeld => ?_)
                    clear hK K
                    refine norm_ (a' := ?_) ?_ ?_
                    rotate_left
                    · show Act.put _ (some 11) _ = _
                      simp only [Act.put, List.setIfInBounds_toArray, List.set_cons_zero, List.set_cons_succ, i64_w, i32_w]
                      rfl
                    exact norm_ (by first | (simp only [putAll, Act.put, List.setIfInBounds_toArray, List.set_cons_zero, List.set_cons_succ]; done) | (simp only [putAll, Act.put, List.setIfInBounds_toArray, List.set_cons_zero, List.set_cons_succ]; rfl)) (hJ2_4_11 (gb1294) _ ⟨hHeld, (bkA BK1268), (bkA BK1269), (bkA BK1270), (bkA BK1282), (bkA BK1294), GW1294.out, GE1294.out, NB1268_1294.out, NB1294_1268.out, NB1269_1294.out, NB1294_1269.out, NB1270_1294.out, NB1294_1270.out, NB1282_1294.out, NB1294_1282.out, blA⟩)
              · skip
                rintro gb1294 w34 ⟨hS_, h0_, h1_, h2_, h3_, h4_, h5_, h6_, h7_, h8_, h9_, h10_, h11_, h12_, h13_, h14_, h15_⟩
                have n0_ : Aside0 (w34.heap[gb1268]? = some (.cells #[.int .i64 a1_0, .int .i64 a1_1, .int .i64 a1_2] 31 (0, 0))) := ⟨h0_⟩
                have n1_ : Aside0 (w34.heap[gb1269]? = some (.cells #[.int .i64 a2_0, .int .i64 a2_1] 23 (0, 0))) := ⟨h1_⟩
                have n2_ : Aside0 (w34.heap[gb1270]? = some (.cells #[.int .i64 a3_0, .int .i64 a3_1] 23 (0, 0))) := ⟨h2_⟩
                have n3_ : Aside0 (w34.heap[gb1282]? = some (.cells #[.int .i64 t1278, .int .i64 t1279, .int .i64 t1280] 34 (0, 0))) := ⟨h3_⟩
                have n4_ : Aside0 (w34.heap[gb1294]? = some (.cells #[.int .i64 0, .int .i64 0, .int .i64 0] 34 (0, 0))) := ⟨h4_⟩
                have n5_ : Aside0 (w.heap.size ≤ gb1294) := ⟨h5_⟩
                have n6_ : Aside0 (w.heap.size ≤ gb1294) := ⟨h6_⟩
                have n7_ : Aside0 (gb1268 ≠ gb1294) := ⟨h7_⟩
                have n8_ : Aside0 (gb1294 ≠ gb1268) := ⟨h8_⟩
                have n9_ : Aside0 (gb1269 ≠ gb1294) := ⟨h9_⟩
                have n10_ : Aside0 (gb1294 ≠ gb1269) := ⟨h10_⟩
                have n11_ : Aside0 (gb1270 ≠ gb1294) := ⟨h11_⟩
                have n12_ : Aside0 (gb1294 ≠ gb1270) := ⟨h12_⟩
                have n13_ : Aside0 (gb1282 ≠ gb1294) := ⟨h13_⟩
                have n14_ : Aside0 (gb1294 ≠ gb1282) := ⟨h14_⟩
                have n15_ : Aside0 (Below w.heap.size w w34) := ⟨h15_⟩
                clear BK1268
                clear BK1269
                clear BK1270
                clear BK1282
                clear HB
                clear h0_ h1_ h2_ h3_ h4_ h5_ h6_ h7_ h8_ h9_ h10_ h11_ h12_ h13_ h14_ h15_
                have BK1268 := n0_
                have BK1269 := n1_
                have BK1270 := n2_
                have BK1282 := n3_
                have BK1294 := n4_
                have GW1294 := n5_
                have GE1294 := n6_
                have NB1268_1294 := n7_
                have NB1294_1268 := n8_
                have NB1269_1294 := n9_
                have NB1294_1269 := n10_
                have NB1270_1294 := n11_
                have NB1294_1270 := n12_
                have NB1282_1294 := n13_
                have NB1294_1282 := n14_
                have HB := n15_
                clear n0_ n1_ n2_ n3_ n4_ n5_ n6_ n7_ n8_ n9_ n10_ n11_ n12_ n13_ n14_ n15_
                have hHeld : w34.cell? ⟨gb1268, 0, none⟩ = some (.int .i64 a1_0) ∧ w34.cell? ⟨gb1268, 1, none⟩ = some (.int .i64 a1_1) ∧ w34.cell? ⟨gb1268, 2, none⟩ = some (.int .i64 a1_2) ∧ w34.cell? ⟨gb1269, 0, none⟩ = some (.int .i64 a2_0) ∧ w34.cell? ⟨gb1269, 1, none⟩ = some (.int .i64 a2_1) ∧ w34.cell? ⟨gb1270, 0, none⟩ = some (.int .i64 a3_0) ∧ w34.cell? ⟨gb1270, 1, none⟩ = some (.int .i64 a3_1) := hS_
                refine norm_ (a' := ?_) ?_ ?_
                rotate_left
                · simp only [putAll, Act.put, List.setIfInBounds_toArray, List.set_cons_zero, List.set_cons_succ]
                  rfl
                refine one_ (i := 6) (N := some 31) #[true, true, true, true, true, true, true, false, false, false, false, true, false, false] rfl rfl (one_of HT_.out (by kernel_rfl)) (by decide) (fun K hK => ?_)
                refine goes_ Try.func16 (by kernel_rfl) rfl #[.agg #[.int .i64 a3_0, .int .i64 a3_1]] (by rfl) rfl rfl (by (try simp only [List.map_toArray, List.map_cons, List.map_nil]); first | done | rfl | (simp only [List.length_drop, List.length_take]; rfl)) ?_
                with_reducible refine (laws_toEnd.calls a3_0 a3_1 t1288 t1289 _ A11.out).mono ?_
                rintro e w35 ⟨rfl, hb⟩
                refine ⟨_, rfl, ?_⟩
                have n0_ := Aside0.mk (blk_below (bkA BK1268) hb)
                have n1_ := Aside0.mk (blk_below (bkA BK1269) hb)
                have n2_ := Aside0.mk (blk_below (bkA BK1270) hb)
                have n3_ := Aside0.mk (blk_below (bkA BK1282) hb)
                have n4_ := Aside0.mk (blk_below (bkA BK1294) hb)
                have n5_ := Aside0.mk (below_step blA hb)
                clear BK1268
                clear BK1269
                clear BK1270
                clear BK1282
                clear BK1294
                clear HB
                have BK1268 := n0_
                have BK1269 := n1_
                have BK1270 := n2_
                have BK1282 := n3_
                have BK1294 := n4_
                have HB := n5_
                clear n0_ n1_ n2_ n3_ n4_ n5_
                (try clear hb)
                (try clear hb2)
                (try clear hk)
                (try clear hi)
                refine hK.out _ _ ⟨(blk_cell BK1268.out 0).trans rfl, (blk_cell BK1268.out 1).trans rfl, (blk_cell BK1268.out 2).trans rfl, (blk_cell BK1269.out 0).trans rfl, (blk_cell BK1269.out 1).trans rfl, (blk_cell BK1270.out 0).trans rfl, (blk_cell BK1270.out 1).trans rfl⟩ (fun hHeld => ?_)
                clear hK K
                refine norm_ (a' := ?_) ?_ ?_
                rotate_left
                · show Act.put _ (some 31) _ = _
                  simp only [Act.put, List.setIfInBounds_toArray, List.set_cons_zero, List.set_cons_succ, i64_w, i32_w]
                  rfl
                exact norm_ (by first | (simp only [putAll, Act.put, List.setIfInBounds_toArray, List.set_cons_zero, List.set_cons_succ]; done) | (simp only [putAll, Act.put, List.setIfInBounds_toArray, List.set_cons_zero, List.set_cons_succ]; rfl)) (hJ2_4_6_11 (gb1294) _ ⟨hHeld, (bkA BK1268), (bkA BK1269), (bkA BK1270), (bkA BK1282), (bkA BK1294), GW1294.out, GE1294.out, NB1268_1294.out, NB1294_1268.out, NB1269_1294.out, NB1294_1269.out, NB1270_1294.out, NB1294_1270.out, NB1282_1294.out, NB1294_1282.out, blA⟩)
            · skip
              rintro _ w34 ⟨hS_, h0_, h1_, h2_, h3_, h4_⟩
              have n0_ : Aside0 (w34.heap[gb1268]? = some (.cells #[.int .i64 a1_0, .int .i64 a1_1, .int .i64 a1_2] 31 (0, 0))) := ⟨h0_⟩
              have n1_ : Aside0 (w34.heap[gb1269]? = some (.cells #[.int .i64 a2_0, .int .i64 a2_1] 23 (0, 0))) := ⟨h1_⟩
              have n2_ : Aside0 (w34.heap[gb1270]? = some (.cells #[.int .i64 a3_0, .int .i64 a3_1] 23 (0, 0))) := ⟨h2_⟩
              have n3_ : Aside0 (w34.heap[gb1282]? = some (.cells #[.int .i64 t1278, .int .i64 t1279, .int .i64 t1280] 34 (0, 0))) := ⟨h3_⟩
              have n4_ : Aside0 (Below w.heap.size w w34) := ⟨h4_⟩
              clear BK1268
              clear BK1269
              clear BK1270
              clear BK1282
              clear HB
              clear h0_ h1_ h2_ h3_ h4_
              have BK1268 := n0_
              have BK1269 := n1_
              have BK1270 := n2_
              have BK1282 := n3_
              have HB := n4_
              clear n0_ n1_ n2_ n3_ n4_
              have hHeld : w34.cell? ⟨gb1268, 0, none⟩ = some (.int .i64 a1_0) ∧ w34.cell? ⟨gb1268, 1, none⟩ = some (.int .i64 a1_1) ∧ w34.cell? ⟨gb1268, 2, none⟩ = some (.int .i64 a1_2) ∧ w34.cell? ⟨gb1269, 0, none⟩ = some (.int .i64 a2_0) ∧ w34.cell? ⟨gb1269, 1, none⟩ = some (.int .i64 a2_1) ∧ w34.cell? ⟨gb1270, 0, none⟩ = some (.int .i64 a3_0) ∧ w34.cell? ⟨gb1270, 1, none⟩ = some (.int .i64 a3_1) := hS_
              refine norm_ (a' := ?_) ?_ ?_
              rotate_left
              · simp only [putAll, Act.put, List.setIfInBounds_toArray, List.set_cons_zero, List.set_cons_succ]
                rfl
              refine two_ (i := 7) (j := 11) (Ni := some 32) (Nj := some 11) #[true, true, true, true, true, true, true, true, false, false, false, false, false, false] #[true, true, true, true, true, true, true, false, false, false, false, true, false, false] rfl rfl rfl rfl (two_of HT_.out (by kernel_rfl)) (by decide) (by decide) (fun K hK => ?_) (fun K hK => ?_)
              · skip
                refine goes_ Try.func49 (by kernel_rfl) rfl #[.int .i64 a0, .agg #[.int .i64 t1283, .int .i64 t1284, .int .i64 t1285], .agg #[.int .i64 t1286, .int .i64 t1287], .agg #[.int .i64 t1288, .int .i64 t1289]] (by rfl) rfl rfl (by (try simp only [List.map_toArray, List.map_cons, List.map_nil]); first | done | rfl | (simp only [List.length_drop, List.length_take]; rfl)) ?_
                with_reducible refine (impl_NearestOnLine.calls k a0 t1283 t1284 t1285 t1286 t1287 t1288 t1289 t1290 t1291 t1292 t1293 _ A12.out).mono ?_
                rintro e w35 ⟨rfl, hb⟩
                refine ⟨_, rfl, ?_⟩
                have n0_ := Aside0.mk (blk_below (bkA BK1268) hb)
                have n1_ := Aside0.mk (blk_below (bkA BK1269) hb)
                have n2_ := Aside0.mk (blk_below (bkA BK1270) hb)
                have n3_ := Aside0.mk (blk_below (bkA BK1282) hb)
                have n4_ := Aside0.mk (below_step blA hb)
                clear BK1268
                clear BK1269
                clear BK1270
                clear BK1282
                clear HB
                have BK1268 := n0_
                have BK1269 := n1_
                have BK1270 := n2_
                have BK1282 := n3_
                have HB := n4_
                clear n0_ n1_ n2_ n3_ n4_
                (try clear hb)
                (try clear hb2)
                (try clear hk)
                (try clear hi)
                refine hK.out _ _ ⟨(blk_cell BK1268.out 0).trans rfl, (blk_cell BK1268.out 1).trans rfl, (blk_cell BK1268.out 2).trans rfl, (blk_cell BK1269.out 0).trans rfl, (blk_cell BK1269.out 1).trans rfl, (blk_cell BK1270.out 0).trans rfl, (blk_cell BK1270.out 1).trans rfl⟩ (fun hHeld => ?_)
                clear hK K
                refine norm_ (a' := ?_) ?_ ?_
                rotate_left
                · show Act.put _ (some 32) _ = _
                  simp only [Act.put, List.setIfInBounds_toArray, List.set_cons_zero, List.set_cons_succ, i64_w, i32_w]
                  rfl
                refine pure_ (i := 8) (N := some 24) (v := ?_) (a' := ?_) #[true, true, true, true, true, true, true, true, true, false, false, false, false, false] rfl rfl (any_of HT_.out (by kernel_rfl)) (fun _ _ _ h => h) (Or.inl ⟨by rfl, ?_⟩) ?_ ?_
                rotate_left
                · intro w'
                  go_simp
                  with_reducible rfl
                rotate_left
                · simp only [Act.put, List.setIfInBounds_toArray, List.set_cons_zero, List.set_cons_succ, i64_w, i32_w]
                  rfl
                refine pure_ (i := 9) (N := some 33) (v := ?_) (a' := ?_) #[true, true, true, true, true, true, true, true, true, true, false, false, false, false] rfl rfl (any_of HT_.out (by kernel_rfl)) (fun _ _ _ h => h) (Or.inl ⟨by rfl, ?_⟩) ?_ ?_
                rotate_left
                · intro w'
                  go_simp
                  with_reducible rfl
                rotate_left
                · simp only [Act.put, List.setIfInBounds_toArray, List.set_cons_zero, List.set_cons_succ, i64_w, i32_w]
                  rfl
                refine pure_ (i := 10) (N := some 34) (v := ?_) (a' := ?_) #[true, true, true, true, true, true, true, true, true, true, true, false, false, false] rfl rfl (any_of HT_.out (by kernel_rfl)) (fun _ _ _ h => h) (Or.inl ⟨by rfl, ?_⟩) ?_ ?_
                rotate_left
                · intro w'
                  go_simp
                  with_reducible rfl
                rotate_left
                · simp only [Act.put, List.setIfInBounds_toArray, List.set_cons_zero, List.set_cons_succ, i64_w, i32_w]
                  rfl
                exact norm_ (by first | (simp only [putAll, Act.put, List.setIfInBounds_toArray, List.set_cons_zero, List.set_cons_succ]; done) | (simp only [putAll, Act.put, List.setIfInBounds_toArray, List.set_cons_zero, List.set_cons_succ]; rfl)) (hJ2_4_6_7 () _ ⟨hHeld, (bkA BK1268), (bkA BK1269), (bkA BK1270), (bkA BK1282), blA⟩)
              · skip
                refine box_step ?hg (N := 11) ?hd (cs := #[.int .i64 0, .int .i64 0, .int .i64 0]) (t := 34) ?hr ?_; (case hd => rfl); (case hg => rfl); (case hr => first | (go_simp; done) | (go_simp; rfl))
                intro gb1294 hg w35 hbox hb
                have n0_ := Aside0.mk (blk_below (bkA BK1268) hb)
                have n1_ := Aside0.mk (blk_below (bkA BK1269) hb)
                have n2_ := Aside0.mk (blk_below (bkA BK1270) hb)
                have n3_ := Aside0.mk (blk_below (bkA BK1282) hb)
                have n4_ := Aside0.mk (below_step blA hb)
                have n5_ := Aside0.mk (hbox)
                have n6_ := Aside0.mk (szA hg blA)
                have n7_ := Aside0.mk (szA hg blA)
                have n8_ := Aside0.mk (neA hg (bkA BK1268))
                have n9_ := Aside0.mk (neB hg (bkA BK1268))
                have n10_ := Aside0.mk (neA hg (bkA BK1269))
                have n11_ := Aside0.mk (neB hg (bkA BK1269))
                have n12_ := Aside0.mk (neA hg (bkA BK1270))
                have n13_ := Aside0.mk (neB hg (bkA BK1270))
                have n14_ := Aside0.mk (neA hg (bkA BK1282))
                have n15_ := Aside0.mk (neB hg (bkA BK1282))
                clear BK1268
                clear BK1269
                clear BK1270
                clear BK1282
                clear HB
                have BK1268 := n0_
                have BK1269 := n1_
                have BK1270 := n2_
                have BK1282 := n3_
                have HB := n4_
                have BK1294 := n5_
                have GW1294 := n6_
                have GE1294 := n7_
                have NB1268_1294 := n8_
                have NB1294_1268 := n9_
                have NB1269_1294 := n10_
                have NB1294_1269 := n11_
                have NB1270_1294 := n12_
                have NB1294_1270 := n13_
                have NB1282_1294 := n14_
                have NB1294_1282 := n15_
                clear n0_ n1_ n2_ n3_ n4_ n5_ n6_ n7_ n8_ n9_ n10_ n11_ n12_ n13_ n14_ n15_
                clear hb hbox hg
                refine hK.out _ _ ⟨(blk_cell BK1268.out 0).trans rfl, (blk_cell BK1268.out 1).trans rfl, (blk_cell BK1268.out 2).trans rfl, (blk_cell BK1269.out 0).trans rfl, (blk_cell BK1269.out 1).trans rfl, (blk_cell BK1270.out 0).trans rfl, (blk_cell BK1270.out 1).trans rfl⟩ (fun hHeld => ?_)
                clear hK K
                refine norm_ (a' := ?_) ?_ ?_
                rotate_left
                · show Act.put _ (some 11) _ = _
                  simp only [Act.put, List.setIfInBounds_toArray, List.set_cons_zero, List.set_cons_succ, i64_w, i32_w]
                  rfl
                exact norm_ (by first | (simp only [putAll, Act.put, List.setIfInBounds_toArray, List.set_cons_zero, List.set_cons_succ]; done) | (simp only [putAll, Act.put, List.setIfInBounds_toArray, List.set_cons_zero, List.set_cons_succ]; rfl)) (hJ2_4_6_11 (gb1294) _ ⟨hHeld, (bkA BK1268), (bkA BK1269), (bkA BK1270), (bkA BK1282), (bkA BK1294), GW1294.out, GE1294.out, NB1268_1294.out, NB1294_1268.out, NB1269_1294.out, NB1294_1269.out, NB1270_1294.out, NB1294_1270.out, NB1282_1294.out, NB1294_1282.out, blA⟩)
          · skip
            rintro gb1294 w35 ⟨hS_, h0_, h1_, h2_, h3_, h4_, h5_, h6_, h7_, h8_, h9_, h10_, h11_, h12_, h13_, h14_, h15_⟩
            have n0_ : Aside0 (w35.heap[gb1268]? = some (.cells #[.int .i64 a1_0, .int .i64 a1_1, .int .i64 a1_2] 31 (0, 0))) := ⟨h0_⟩
            have n1_ : Aside0 (w35.heap[gb1269]? = some (.cells #[.int .i64 a2_0, .int .i64 a2_1] 23 (0, 0))) := ⟨h1_⟩
            have n2_ : Aside0 (w35.heap[gb1270]? = some (.cells #[.int .i64 a3_0, .int .i64 a3_1] 23 (0, 0))) := ⟨h2_⟩
            have n3_ : Aside0 (w35.heap[gb1282]? = some (.cells #[.int .i64 t1278, .int .i64 t1279, .int .i64 t1280] 34 (0, 0))) := ⟨h3_⟩
            have n4_ : Aside0 (w35.heap[gb1294]? = some (.cells #[.int .i64 0, .int .i64 0, .int .i64 0] 34 (0, 0))) := ⟨h4_⟩
            have n5_ : Aside0 (w.heap.size ≤ gb1294) := ⟨h5_⟩
            have n6_ : Aside0 (w.heap.size ≤ gb1294) := ⟨h6_⟩
            have n7_ : Aside0 (gb1268 ≠ gb1294) := ⟨h7_⟩
            have n8_ : Aside0 (gb1294 ≠ gb1268) := ⟨h8_⟩
            have n9_ : Aside0 (gb1269 ≠ gb1294) := ⟨h9_⟩
            have n10_ : Aside0 (gb1294 ≠ gb1269) := ⟨h10_⟩
            have n11_ : Aside0 (gb1270 ≠ gb1294) := ⟨h11_⟩
            have n12_ : Aside0 (gb1294 ≠ gb1270) := ⟨h12_⟩
            have n13_ : Aside0 (gb1282 ≠ gb1294) := ⟨h13_⟩
            have n14_ : Aside0 (gb1294 ≠ gb1282) := ⟨h14_⟩
            have n15_ : Aside0 (Below w.heap.size w w35) := ⟨h15_⟩
            clear BK1268
            clear BK1269
            clear BK1270
            clear BK1282
            clear HB
            clear h0_ h1_ h2_ h3_ h4_ h5_ h6_ h7_ h8_ h9_ h10_ h11_ h12_ h13_ h14_ h15_
            have BK1268 := n0_
            have BK1269 := n1_
            have BK1270 := n2_
            have BK1282 := n3_
            have BK1294 := n4_
            have GW1294 := n5_
            have GE1294 := n6_
            have NB1268_1294 := n7_
            have NB1294_1268 := n8_
            have NB1269_1294 := n9_
            have NB1294_1269 := n10_
            have NB1270_1294 := n11_
            have NB1294_1270 := n12_
            have NB1282_1294 := n13_
            have NB1294_1282 := n14_
            have HB := n15_
            clear n0_ n1_ n2_ n3_ n4_ n5_ n6_ n7_ n8_ n9_ n10_ n11_ n12_ n13_ n14_ n15_
            have hHeld : w35.cell? ⟨gb1268, 0, none⟩ = some (.int .i64 a1_0) ∧ w35.cell? ⟨gb1268, 1, none⟩ = some (.int .i64 a1_1) ∧ w35.cell? ⟨gb1268, 2, none⟩ = some (.int .i64 a1_2) ∧ w35.cell? ⟨gb1269, 0, none⟩ = some (.int .i64 a2_0) ∧ w35.cell? ⟨gb1269, 1, none⟩ = some (.int .i64 a2_1) ∧ w35.cell? ⟨gb1270, 0, none⟩ = some (.int .i64 a3_0) ∧ w35.cell? ⟨gb1270, 1, none⟩ = some (.int .i64 a3_1) := hS_
            refine norm_ (a' := ?_) ?_ ?_
            rotate_left
            · simp only [putAll, Act.put, List.setIfInBounds_toArray, List.set_cons_zero, List.set_cons_succ]
              rfl
            refine one_ (i := 7) (N := some 32) #[true, true, true, true, true, true, true, true, false, false, false, true, false, false] rfl rfl (one_of HT_.out (by kernel_rfl)) (by decide) (fun K hK => ?_)
            refine goes_ Try.func49 (by kernel_rfl) rfl #[.int .i64 a0, .agg #[.int .i64 t1283, .int .i64 t1284, .int .i64 t1285], .agg #[.int .i64 t1286, .int .i64 t1287], .agg #[.int .i64 t1288, .int .i64 t1289]] (by rfl) rfl rfl (by (try simp only [List.map_toArray, List.map_cons, List.map_nil]); first | done | rfl | (simp only [List.length_drop, List.length_take]; rfl)) ?_
            with_reducible refine (impl_NearestOnLine.calls k a0 t1283 t1284 t1285 t1286 t1287 t1288 t1289 t1290 t1291 t1292 t1293 _ A12.out).mono ?_
            rintro e w36 ⟨rfl, hb⟩
            refine ⟨_, rfl, ?_⟩
            have n0_ := Aside0.mk (blk_below (bkA BK1268) hb)
            have n1_ := Aside0.mk (blk_below (bkA BK1269) hb)
            have n2_ := Aside0.mk (blk_below (bkA BK1270) hb)
            have n3_ := Aside0.mk (blk_below (bkA BK1282) hb)
            have n4_ := Aside0.mk (blk_below (bkA BK1294) hb)
            have n5_ := Aside0.mk (below_step blA hb)
            clear BK1268
            clear BK1269
            clear BK1270
            clear BK1282
            clear BK1294
            clear HB
            have BK1268 := n0_
            have BK1269 := n1_
            have BK1270 := n2_
            have BK1282 := n3_
            have BK1294 := n4_
            have HB := n5_
            clear n0_ n1_ n2_ n3_ n4_ n5_
            (try clear hb)
            (try clear hb2)
            (try clear hk)
            (try clear hi)
            refine hK.out _ _ ⟨(blk_cell BK1268.out 0).trans rfl, (blk_cell BK1268.out 1).trans rfl, (blk_cell BK1268.out 2).trans rfl, (blk_cell BK1269.out 0).trans rfl, (blk_cell BK1269.out 1).trans rfl, (blk_cell BK1270.out 0).trans rfl, (blk_cell BK1270.out 1).trans rfl⟩ (fun hHeld => ?_)
            clear hK K
            refine norm_ (a' := ?_) ?_ ?_
            rotate_left
            · show Act.put _ (some 32) _ = _
              simp only [Act.put, List.setIfInBounds_toArray, List.set_cons_zero, List.set_cons_succ, i64_w, i32_w]
              rfl
            refine pure_ (i := 8) (N := some 24) (v := ?_) (a' := ?_) #[true, true, true, true, true, true, true, true, true, false, false, true, false, false] rfl rfl (any_of HT_.out (by kernel_rfl)) (fun _ _ _ h => h) (Or.inl ⟨by rfl, ?_⟩) ?_ ?_
            rotate_left
            · intro w'
              go_simp
              with_reducible rfl
            rotate_left
            · simp only [Act.put, List.setIfInBounds_toArray, List.set_cons_zero, List.set_cons_succ, i64_w, i32_w]
              rfl
            refine pure_ (i := 9) (N := some 33) (v := ?_) (a' := ?_) #[true, true, true, true, true, true, true, true, true, true, false, true, false, false] rfl rfl (any_of HT_.out (by kernel_rfl)) (fun _ _ _ h => h) (Or.inl ⟨by rfl, ?_⟩) ?_ ?_
            rotate_left
            · intro w'
              go_simp
              with_reducible rfl
            rotate_left
            · simp only [Act.put, List.setIfInBounds_toArray, List.set_cons_zero, List.set_cons_succ, i64_w, i32_w]
              rfl
            refine pure_ (i := 10) (N := some 34) (v := ?_) (a' := ?_) #[true, true, true, true, true, true, true, true, true, true, true, true, false, false] rfl rfl (any_of HT_.out (by kernel_rfl)) (fun _ _ _ h => h) (Or.inl ⟨by rfl, ?_⟩) ?_ ?_
            rotate_left
            · intro w'
              go_simp
              with_reducible rfl
            rotate_left
            · simp only [Act.put, List.setIfInBounds_toArray, List.set_cons_zero, List.set_cons_succ, i64_w, i32_w]
              rfl
            exact norm_ (by first | (simp only [putAll, Act.put, List.setIfInBounds_toArray, List.set_cons_zero, List.set_cons_succ]; done) | (simp only [putAll, Act.put, List.setIfInBounds_toArray, List.set_cons_zero, List.set_cons_succ]; rfl)) (hJ2_4_6_7_11 (gb1294) _ ⟨hHeld, (bkA BK1268), (bkA BK1269), (bkA BK1270), (bkA BK1282), (bkA BK1294), GW1294.out, GE1294.out, NB1268_1294.out, NB1294_1268.out, NB1269_1294.out, NB1294_1269.out, NB1270_1294.out, NB1294_1270.out, NB1282_1294.out, NB1294_1282.out, blA⟩)
        · skip
          rintro _ w35 ⟨hS_, h0_, h1_, h2_, h3_, h4_⟩
          have n0_ : Aside0 (w35.heap[gb1268]? = some (.cells #[.int .i64 a1_0, .int .i64 a1_1, .int .i64 a1_2] 31 (0, 0))) := ⟨h0_⟩
          have n1_ : Aside0 (w35.heap[gb1269]? = some (.cells #[.int .i64 a2_0, .int .i64 a2_1] 23 (0, 0))) := ⟨h1_⟩
          have n2_ : Aside0 (w35.heap[gb1270]? = some (.cells #[.int .i64 a3_0, .int .i64 a3_1] 23 (0, 0))) := ⟨h2_⟩
          have n3_ : Aside0 (w35.heap[gb1282]? = some (.cells #[.int .i64 t1278, .int .i64 t1279, .int .i64 t1280] 34 (0, 0))) := ⟨h3_⟩
          have n4_ : Aside0 (Below w.heap.size w w35) := ⟨h4_⟩
          clear BK1268
          clear BK1269
          clear BK1270
          clear BK1282
          clear HB
          clear h0_ h1_ h2_ h3_ h4_
          have BK1268 := n0_
          have BK1269 := n1_
          have BK1270 := n2_
          have BK1282 := n3_
          have HB := n4_
          clear n0_ n1_ n2_ n3_ n4_
          have hHeld : w35.cell? ⟨gb1268, 0, none⟩ = some (.int .i64 a1_0) ∧ w35.cell? ⟨gb1268, 1, none⟩ = some (.int .i64 a1_1) ∧ w35.cell? ⟨gb1268, 2, none⟩ = some (.int .i64 a1_2) ∧ w35.cell? ⟨gb1269, 0, none⟩ = some (.int .i64 a2_0) ∧ w35.cell? ⟨gb1269, 1, none⟩ = some (.int .i64 a2_1) ∧ w35.cell? ⟨gb1270, 0, none⟩ = some (.int .i64 a3_0) ∧ w35.cell? ⟨gb1270, 1, none⟩ = some (.int .i64 a3_1) := hS_
          refine norm_ (a' := ?_) ?_ ?_
          rotate_left
          · simp only [putAll, Act.put, List.setIfInBounds_toArray, List.set_cons_zero, List.set_cons_succ]
            rfl
          refine one_ (i := 11) (N := some 11) #[true, true, true, true, true, true, true, true, true, true, true, true, false, false] rfl rfl (one_of HT_.out (by kernel_rfl)) (by decide) (fun K hK => ?_)
          refine box_step ?hg (N := 11) ?hd (cs := #[.int .i64 0, .int .i64 0, .int .i64 0]) (t := 34) ?hr ?_; (case hd => rfl); (case hg => rfl); (case hr => first | (go_simp; done) | (go_simp; rfl))
          intro gb1294 hg w36 hbox hb
          have n0_ := Aside0.mk (blk_below (bkA BK1268) hb)
          have n1_ := Aside0.mk (blk_below (bkA BK1269) hb)
          have n2_ := Aside0.mk (blk_below (bkA BK1270) hb)
          have n3_ := Aside0.mk (blk_below (bkA BK1282) hb)
          have n4_ := Aside0.mk (below_step blA hb)
          have n5_ := Aside0.mk (hbox)
          have n6_ := Aside0.mk (szA hg blA)
          have n7_ := Aside0.mk (szA hg blA)
          have n8_ := Aside0.mk (neA hg (bkA BK1268))
          have n9_ := Aside0.mk (neB hg (bkA BK1268))
          have n10_ := Aside0.mk (neA hg (bkA BK1269))
          have n11_ := Aside0.mk (neB hg (bkA BK1269))
          have n12_ := Aside0.mk (neA hg (bkA BK1270))
          have n13_ := Aside0.mk (neB hg (bkA BK1270))
          have n14_ := Aside0.mk (neA hg (bkA BK1282))
          have n15_ := Aside0.mk (neB hg (bkA BK1282))
          clear BK1268
          clear BK1269
          clear BK1270
          clear BK1282
          clear HB
          have BK1268 := n0_
          have BK1269 := n1_
          have BK1270 := n2_
          have BK1282 := n3_
          have HB := n4_
          have BK1294 := n5_
          have GW1294 := n6_
          have GE1294 := n7_
          have NB1268_1294 := n8_
          have NB1294_1268 := n9_
          have NB1269_1294 := n10_
          have NB1294_1269 := n11_
          have NB1270_1294 := n12_
          have NB1294_1270 := n13_
          have NB1282_1294 := n14_
          have NB1294_1282 := n15_
          clear n0_ n1_ n2_ n3_ n4_ n5_ n6_ n7_ n8_ n9_ n10_ n11_ n12_ n13_ n14_ n15_
          clear hb hbox hg
          refine hK.out _ _ ⟨(blk_cell BK1268.out 0).trans rfl, (blk_cell BK1268.out 1).trans rfl, (blk_cell BK1268.out 2).trans rfl, (blk_cell BK1269.out 0).trans rfl, (blk_cell BK1269.out 1).trans rfl, (blk_cell BK1270.out 0).trans rfl, (blk_cell BK1270.out 1).trans rfl⟩ (fun hHeld => ?_)
          clear hK K
          refine norm_ (a' := ?_) ?_ ?_
          rotate_left
          · show Act.put _ (some 11) _ = _
            simp only [Act.put, List.setIfInBounds_toArray, List.set_cons_zero, List.set_cons_succ, i64_w, i32_w]
            rfl
          exact norm_ (by first | (simp only [putAll, Act.put, List.setIfInBounds_toArray, List.set_cons_zero, List.set_cons_succ]; done) | (simp only [putAll, Act.put, List.setIfInBounds_toArray, List.set_cons_zero, List.set_cons_succ]; rfl)) (hJ2_4_6_7_11 (gb1294) _ ⟨hHeld, (bkA BK1268), (bkA BK1269), (bkA BK1270), (bkA BK1282), (bkA BK1294), GW1294.out, GE1294.out, NB1268_1294.out, NB1294_1268.out, NB1269_1294.out, NB1294_1269.out, NB1270_1294.out, NB1294_1270.out, NB1282_1294.out, NB1294_1282.out, blA⟩)
      rintro gb1294 w36 ⟨hS_, h0_, h1_, h2_, h3_, h4_, h5_, h6_, h7_, h8_, h9_, h10_, h11_, h12_, h13_, h14_, h15_⟩
      have n0_ : Aside0 (w36.heap[gb1268]? = some (.cells #[.int .i64 a1_0, .int .i64 a1_1, .int .i64 a1_2] 31 (0, 0))) := ⟨h0_⟩
      have n1_ : Aside0 (w36.heap[gb1269]? = some (.cells #[.int .i64 a2_0, .int .i64 a2_1] 23 (0, 0))) := ⟨h1_⟩
      have n2_ : Aside0 (w36.heap[gb1270]? = some (.cells #[.int .i64 a3_0, .int .i64 a3_1] 23 (0, 0))) := ⟨h2_⟩
      have n3_ : Aside0 (w36.heap[gb1282]? = some (.cells #[.int .i64 t1278, .int .i64 t1279, .int .i64 t1280] 34 (0, 0))) := ⟨h3_⟩
      have n4_ : Aside0 (w36.heap[gb1294]? = some (.cells #[.int .i64 0, .int .i64 0, .int .i64 0] 34 (0, 0))) := ⟨h4_⟩
      have n5_ : Aside0 (w.heap.size ≤ gb1294) := ⟨h5_⟩
      have n6_ : Aside0 (w.heap.size ≤ gb1294) := ⟨h6_⟩
      have n7_ : Aside0 (gb1268 ≠ gb1294) := ⟨h7_⟩
      have n8_ : Aside0 (gb1294 ≠ gb1268) := ⟨h8_⟩
      have n9_ : Aside0 (gb1269 ≠ gb1294) := ⟨h9_⟩
      have n10_ : Aside0 (gb1294 ≠ gb1269) := ⟨h10_⟩
      have n11_ : Aside0 (gb1270 ≠ gb1294) := ⟨h11_⟩
      have n12_ : Aside0 (gb1294 ≠ gb1270) := ⟨h12_⟩
      have n13_ : Aside0 (gb1282 ≠ gb1294) := ⟨h13_⟩
      have n14_ : Aside0 (gb1294 ≠ gb1282) := ⟨h14_⟩
      have n15_ : Aside0 (Below w.heap.size w w36) := ⟨h15_⟩
      clear BK1268
      clear BK1269
      clear BK1270
      clear BK1282
      clear HB
      clear h0_ h1_ h2_ h3_ h4_ h5_ h6_ h7_ h8_ h9_ h10_ h11_ h12_ h13_ h14_ h15_
      have BK1268 := n0_
      have BK1269 := n1_
      have BK1270 := n2_
      have BK1282 := n3_
      have BK1294 := n4_
      have GW1294 := n5_
      have GE1294 := n6_
      have NB1268_1294 := n7_
      have NB1294_1268 := n8_
      have NB1269_1294 := n9_
      have NB1294_1269 := n10_
      have NB1270_1294 := n11_
      have NB1294_1270 := n12_
      have NB1282_1294 := n13_
      have NB1294_1282 := n14_
      have HB := n15_
      clear n0_ n1_ n2_ n3_ n4_ n5_ n6_ n7_ n8_ n9_ n10_ n11_ n12_ n13_ n14_ n15_
      have hHeld : w36.cell? ⟨gb1268, 0, none⟩ = some (.int .i64 a1_0) ∧ w36.cell? ⟨gb1268, 1, none⟩ = some (.int .i64 a1_1) ∧ w36.cell? ⟨gb1268, 2, none⟩ = some (.int .i64 a1_2) ∧ w36.cell? ⟨gb1269, 0, none⟩ = some (.int .i64 a2_0) ∧ w36.cell? ⟨gb1269, 1, none⟩ = some (.int .i64 a2_1) ∧ w36.cell? ⟨gb1270, 0, none⟩ = some (.int .i64 a3_0) ∧ w36.cell? ⟨gb1270, 1, none⟩ = some (.int .i64 a3_1) := hS_
      refine norm_ (a' := ?_) ?_ ?_
      rotate_left
      · simp only [putAll, Act.put, List.setIfInBounds_toArray, List.set_cons_zero, List.set_cons_succ]
        rfl
      refine one_ (i := 12) (N := none) #[true, true, true, true, true, true, true, true, true, true, true, true, true, false] rfl rfl (one_of HT_.out (by kernel_rfl)) (by decide) (fun K hK => ?_)
      have hs37 : w36.cell? ⟨gb1294, 0, none⟩ = some (.int .i64 0) := (blk_cell BK1294.out 0).trans rfl
      have hfs37 := blk_frozen BK1294.out 0
      have hns37_0 := NB1268_1294.out
      have hns37_1 := NB1269_1294.out
      have hns37_2 := NB1270_1294.out
      have hns37_3 := NB1282_1294.out
      have hms37_0 := NB1294_1268.out
      have hms37_1 := NB1294_1269.out
      have hms37_2 := NB1294_1270.out
      have hms37_3 := NB1294_1282.out
      have hs38 : w36.cell? ⟨gb1294, 1, none⟩ = some (.int .i64 0) := (blk_cell BK1294.out 1).trans rfl
      have hfs38 := blk_frozen BK1294.out 1
      have hns38_0 := NB1268_1294.out
      have hns38_1 := NB1269_1294.out
      have hns38_2 := NB1270_1294.out
      have hns38_3 := NB1282_1294.out
      have hms38_0 := NB1294_1268.out
      have hms38_1 := NB1294_1269.out
      have hms38_2 := NB1294_1270.out
      have hms38_3 := NB1294_1282.out
      have hs39 : w36.cell? ⟨gb1294, 2, none⟩ = some (.int .i64 0) := (blk_cell BK1294.out 2).trans rfl
      have hfs39 := blk_frozen BK1294.out 2
      have hns39_0 := NB1268_1294.out
      have hns39_1 := NB1269_1294.out
      have hns39_2 := NB1270_1294.out
      have hns39_3 := NB1282_1294.out
      have hms39_0 := NB1294_1268.out
      have hms39_1 := NB1294_1269.out
      have hms39_2 := NB1294_1270.out
      have hms39_3 := NB1294_1282.out
      refine skip_ (w1 := ?_) (by rfl) rfl ?_ ?_
      rotate_left
      · go_simp
        rfl
      refine hK.out _ _ ⟨((cell_far (p := ⟨gb1294, _, none⟩) NB1268_1294.out _).trans (((cell_far (p := ⟨gb1294, _, none⟩) NB1268_1294.out _).trans (((cell_far (p := ⟨gb1294, _, none⟩) NB1268_1294.out _).trans (hHeld.1)))))), ((cell_far (p := ⟨gb1294, _, none⟩) NB1268_1294.out _).trans (((cell_far (p := ⟨gb1294, _, none⟩) NB1268_1294.out _).trans (((cell_far (p := ⟨gb1294, _, none⟩) NB1268_1294.out _).trans (hHeld.2.1)))))), ((cell_far (p := ⟨gb1294, _, none⟩) NB1268_1294.out _).trans (((cell_far (p := ⟨gb1294, _, none⟩) NB1268_1294.out _).trans (((cell_far (p := ⟨gb1294, _, none⟩) NB1268_1294.out _).trans (hHeld.2.2.1)))))), ((cell_far (p := ⟨gb1294, _, none⟩) NB1269_1294.out _).trans (((cell_far (p := ⟨gb1294, _, none⟩) NB1269_1294.out _).trans (((cell_far (p := ⟨gb1294, _, none⟩) NB1269_1294.out _).trans (hHeld.2.2.2.1)))))), ((cell_far (p := ⟨gb1294, _, none⟩) NB1269_1294.out _).trans (((cell_far (p := ⟨gb1294, _, none⟩) NB1269_1294.out _).trans (((cell_far (p := ⟨gb1294, _, none⟩) NB1269_1294.out _).trans (hHeld.2.2.2.2.1)))))), ((cell_far (p := ⟨gb1294, _, none⟩) NB1270_1294.out _).trans (((cell_far (p := ⟨gb1294, _, none⟩) NB1270_1294.out _).trans (((cell_far (p := ⟨gb1294, _, none⟩) NB1270_1294.out _).trans (hHeld.2.2.2.2.2.1)))))), ((cell_far (p := ⟨gb1294, _, none⟩) NB1270_1294.out _).trans (((cell_far (p := ⟨gb1294, _, none⟩) NB1270_1294.out _).trans (((cell_far (p := ⟨gb1294, _, none⟩) NB1270_1294.out _).trans (hHeld.2.2.2.2.2.2))))))⟩ (fun hHeld => ?_)
      clear hK K
      refine pure_ (i := 13) (N := some 12) (v := ?_) (a' := ?_) #[true, true, true, true, true, true, true, true, true, true, true, true, true, true] rfl rfl (any_of HT_.out (by kernel_rfl)) (fun _ _ _ h => h) (Or.inl ⟨by rfl, ?_⟩) ?_ ?_
      rotate_left
      · intro w'
        go_simp
        with_reducible rfl
      rotate_left
      · simp only [Act.put, List.setIfInBounds_toArray, List.set_cons_zero, List.set_cons_succ, i64_w, i32_w]
        rfl
      refine done_ (done_of HT_.out (by kernel_rfl)) ?_
      have hnb40 := NB1294_1268.out
      have hnc40 := NB1268_1294.out
      have hnb41 := NB1294_1269.out
      have hnc41 := NB1269_1294.out
      have hnb42 := NB1294_1270.out
      have hnc42 := NB1270_1294.out
      have hnb43 := NB1294_1282.out
      have hnc43 := NB1282_1294.out
      have hcz44_0 : w36.cell? ⟨gb1294, 0, none⟩ = some (.int .i64 0) := (blk_cell BK1294.out 0).trans rfl
      have hcz44_1 : w36.cell? ⟨gb1294, 1, none⟩ = some (.int .i64 0) := (blk_cell BK1294.out 1).trans rfl
      have hcz44_2 : w36.cell? ⟨gb1294, 2, none⟩ = some (.int .i64 0) := (blk_cell BK1294.out 2).trans rfl
      have hfz44_0 := blk_frozen BK1294.out 0
      have hfz44_1 := blk_frozen BK1294.out 1
      have hfz44_2 := blk_frozen BK1294.out 2
      have hnb45 := NB1282_1268.out
      have hnc45 := NB1268_1282.out
      have hnb46 := NB1282_1269.out
      have hnc46 := NB1269_1282.out
      have hnb47 := NB1282_1270.out
      have hnc47 := NB1270_1282.out
      have hcz48_0 : w36.cell? ⟨gb1282, 0, none⟩ = some (.int .i64 t1278) := (blk_cell BK1282.out 0).trans rfl
      have hcz48_1 : w36.cell? ⟨gb1282, 1, none⟩ = some (.int .i64 t1279) := (blk_cell BK1282.out 1).trans rfl
      have hcz48_2 : w36.cell? ⟨gb1282, 2, none⟩ = some (.int .i64 t1280) := (blk_cell BK1282.out 2).trans rfl
      have hfz48_0 := blk_frozen BK1282.out 0
      have hfz48_1 := blk_frozen BK1282.out 1
      have hfz48_2 := blk_frozen BK1282.out 2
      try go_wp2_with (first | ((with_reducible refine gate_callee (f := 28) rfl ?_); refine goesL_ (some 37) rfl rfl Try.func28 (by kernel_rfl) rfl #[.agg #[.int .i64 t1290, .int .i64 t1291, .int .i64 t1292], .agg #[.int .i64 t1278, .int .i64 t1279, .int .i64 t1280]] rfl (by (try simp only [List.map_toArray, List.map_cons, List.map_nil]); first | done | rfl | (simp only [List.length_drop, List.length_take]; rfl)) ?_; (with_reducible refine (laws_eqBall.calls t1290 t1291 t1292 t1278 t1279 t1280 true _ A13.out).mono ?_); rintro e w49 ⟨rfl, hb⟩; refine ⟨_, rfl, ?_⟩; have n0_ := Aside0.mk (blk_below (g := gb1268) (o := .cells #[.int .i64 a1_0, .int .i64 a1_1, .int .i64 a1_2] 31 (0, 0)) (by (with_reducible repeat (first | refine blk_drewN ?_ _ | refine blk_drew ?_ | refine blk_alloc ?_ _)); refine blk_far ?_ NB1268_1294.out _; (with_reducible repeat (first | refine blk_drewN ?_ _ | refine blk_drew ?_ | refine blk_alloc ?_ _)); refine blk_far ?_ NB1268_1294.out _; (with_reducible repeat (first | refine blk_drewN ?_ _ | refine blk_drew ?_ | refine blk_alloc ?_ _)); refine blk_far ?_ NB1268_1294.out _; (with_reducible repeat (first | refine blk_drewN ?_ _ | refine blk_drew ?_ | refine blk_alloc ?_ _)); exact BK1268.out) hb); have n1_ := Aside0.mk (blk_below (g := gb1269) (o := .cells #[.int .i64 a2_0, .int .i64 a2_1] 23 (0, 0)) (by (with_reducible repeat (first | refine blk_drewN ?_ _ | refine blk_drew ?_ | refine blk_alloc ?_ _)); refine blk_far ?_ NB1269_1294.out _; (with_reducible repeat (first | refine blk_drewN ?_ _ | refine blk_drew ?_ | refine blk_alloc ?_ _)); refine blk_far ?_ NB1269_1294.out _; (with_reducible repeat (first | refine blk_drewN ?_ _ | refine blk_drew ?_ | refine blk_alloc ?_ _)); refine blk_far ?_ NB1269_1294.out _; (with_reducible repeat (first | refine blk_drewN ?_ _ | refine blk_drew ?_ | refine blk_alloc ?_ _)); exact BK1269.out) hb); have n2_ := Aside0.mk (blk_below (g := gb1270) (o := .cells #[.int .i64 a3_0, .int .i64 a3_1] 23 (0, 0)) (by (with_reducible repeat (first | refine blk_drewN ?_ _ | refine blk_drew ?_ | refine blk_alloc ?_ _)); refine blk_far ?_ NB1270_1294.out _; (with_reducible repeat (first | refine blk_drewN ?_ _ | refine blk_drew ?_ | refine blk_alloc ?_ _)); refine blk_far ?_ NB1270_1294.out _; (with_reducible repeat (first | refine blk_drewN ?_ _ | refine blk_drew ?_ | refine blk_alloc ?_ _)); refine blk_far ?_ NB1270_1294.out _; (with_reducible repeat (first | refine blk_drewN ?_ _ | refine blk_drew ?_ | refine blk_alloc ?_ _)); exact BK1270.out) hb); have n3_ := Aside0.mk (blk_below (g := gb1282) (o := .cells #[.int .i64 t1278, .int .i64 t1279, .int .i64 t1280] 34 (0, 0)) (by (with_reducible repeat (first | refine blk_drewN ?_ _ | refine blk_drew ?_ | refine blk_alloc ?_ _)); refine blk_far ?_ NB1282_1294.out _; (with_reducible repeat (first | refine blk_drewN ?_ _ | refine blk_drew ?_ | refine blk_alloc ?_ _)); refine blk_far ?_ NB1282_1294.out _; (with_reducible repeat (first | refine blk_drewN ?_ _ | refine blk_drew ?_ | refine blk_alloc ?_ _)); refine blk_far ?_ NB1282_1294.out _; (with_reducible repeat (first | refine blk_drewN ?_ _ | refine blk_drew ?_ | refine blk_alloc ?_ _)); exact BK1282.out) hb); have n4_ := Aside0.mk (blk_below (g := gb1294) (o := .cells #[.int .i64 t1290, .int .i64 t1291, .int .i64 t1292] 34 (0, 0)) (by (with_reducible repeat (first | refine blk_drewN ?_ _ | refine blk_drew ?_ | refine blk_alloc ?_ _)); refine blk_put (cs := #[.int .i64 t1290, .int .i64 t1291, .int .i64 0]) ?_ 2 _ rfl; (with_reducible repeat (first | refine blk_drewN ?_ _ | refine blk_drew ?_ | refine blk_alloc ?_ _)); refine blk_put (cs := #[.int .i64 t1290, .int .i64 0, .int .i64 0]) ?_ 1 _ rfl; (with_reducible repeat (first | refine blk_drewN ?_ _ | refine blk_drew ?_ | refine blk_alloc ?_ _)); refine blk_put (cs := #[.int .i64 0, .int .i64 0, .int .i64 0]) ?_ 0 _ rfl; (with_reducible repeat (first | refine blk_drewN ?_ _ | refine blk_drew ?_ | refine blk_alloc ?_ _)); exact BK1294.out) hb); have n5_ := Aside0.mk (below_step blA hb); clear BK1268; clear BK1269; clear BK1270; clear BK1282; clear BK1294; clear HB; have BK1268 := n0_; have BK1269 := n1_; have BK1270 := n2_; have BK1282 := n3_; have BK1294 := n4_; have HB := n5_; clear n0_ n1_ n2_ n3_ n4_ n5_; (try clear hb); (try clear hb2); (try clear hk); (try clear hi)))
      go_ret
      exact ⟨by first | rfl | (simp [errW_none, errW_some] <;> rfl) | (simp [*, errW_none, errW_some] <;> rfl), blA⟩
    · rw [if_neg c15] at H
      exact absurd H (by simp)
  · replace c14 := Bool.eq_false_iff.mpr c14
    subst c14
    have H1 : (none) = some r := by rw [if_neg (show ¬ (false = true) by decide)] at H; exact H
    clear H
    have H := H1
    clear H1
    exact absurd H (by simp)
end Go.Proofs.Ytfkglijnbgijbaa.PAll
