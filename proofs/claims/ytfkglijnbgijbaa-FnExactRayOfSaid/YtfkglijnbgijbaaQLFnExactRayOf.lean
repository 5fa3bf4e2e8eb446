-- turned for this claim out of the kit's print: the same functions, packed anew
import Derived.Test.YtfkglijnbgijbaaQx
import Derived.Test.YtfkglijnbgijbaaQimplIsEnd
import Derived.Test.YtfkglijnbgijbaaQimplRayOf
import Derived.Test.YtfkglijnbgijbaaQimplmark
import Derived.Test.YtfkglijnbgijbaaQspecRayOf
import Derived.Test.YtfkglijnbgijbaaQspecl05Next
namespace Go.Proofs.Ytfkglijnbgijbaa.PAll
open Go.RowKit Go.Proofs.YtfkglijnbgijbaaW.PrintWords Go.Proofs.YtfkglijnbgijbaaW.PrintLast Go.Proofs.YtfkglijnbgijbaaW.PrintMore
attribute [local go_sem] Go.Proofs.Ytfkglijnbgijbaa.Aux.setCell_drewN Go.Proofs.Ytfkglijnbgijbaa.Aux.isSome_setCell max2_int min2_int max_two min_two max_three min_three max_four min_four   -- for this text's walks alone
set_option linter.unusedVariables false
set_option linter.unusedSimpArgs false
/-! ### laws_FnExactRayOf: function 14 -/
mutual
def laws_FnExactRayOf.j0 : Nat → Int → Int → List (S34) → Int → List (S34) → Bool → Int → Int → Int → Int → Int → Option (Bool)
  | 0, _, _, _, _, _, _, _, _, _, _, _ => none
  | k + 1, x0, x3, x9, x10, x11, x45, x1349000, x1349001, x1349002, x1350000, x1350001 => if x45 = true then (none) else ((laws_markBallS.f k x11 1).bind fun bt1369 => ((laws_heldBallS.f k bt1369.2 1).bind fun t1371 => (if t1371 < 0 then (none) else (if t1371 = bt1369.1 then ((laws_toBall.f x1349000 x1349001 x1349002).bind fun bt1372 => ((laws_toEnd.f x1350000 x1350001).bind fun bt1375 => ((impl_RayOf.f k x0 bt1372.1 bt1372.2.1 bt1372.2.2 bt1375.1 bt1375.2 x3).bind fun bt1377 => ((laws_eqBallS.f k bt1377.1 x9).bind fun t1381 => (if t1381 = true then (laws_FnExactRayOf.j1 k bt1369.2 bt1369.1 (bt1377.2 != x10)) else (laws_FnExactRayOf.j1 k bt1369.2 bt1369.1 true)))))) else (none)))))
def laws_FnExactRayOf.j1 : Nat → List (S34) → Int → Bool → Option (Bool)
  | 0, _, _, _ => none
  | k + 1, x11, x13, x75 => if x75 = true then (none) else ((laws_heldBallS.f k x11 1).bind fun t1382 => (if t1382 < 0 then (none) else (if t1382 = x13 then (some true) else (none))))
end
def laws_FnExactRayOf.f (k : Nat) (a0 : Int) (a1_0 : Int) (a1_1 : Int) (a1_2 : Int) (a2_0 : Int) (a2_1 : Int) (a3 : Int) : Option (Bool) := (laws_toBall.f a1_0 a1_1 a1_2).bind fun bt1350 => ((laws_toEnd.f a2_0 a2_1).bind fun bt1353 => ((spec_RayOf.f k a0 bt1350.1 bt1350.2.1 bt1350.2.2 bt1353.1 bt1353.2 a3).bind fun bt1355 => ((laws_toBall.f a1_0 a1_1 a1_2).bind fun bt1359 => ((laws_toEnd.f a2_0 a2_1).bind fun bt1362 => ((impl_RayOf.f k a0 bt1359.1 bt1359.2.1 bt1359.2.2 bt1362.1 bt1362.2 a3).bind fun bt1364 => ((laws_eqBallS.f k bt1364.1 bt1355.1).bind fun t1368 => (if t1368 = true then (laws_FnExactRayOf.j0 k a0 a3 bt1355.1 bt1355.2 bt1364.1 (bt1364.2 != bt1355.2) a1_0 a1_1 a1_2 a2_0 a2_1) else (laws_FnExactRayOf.j0 k a0 a3 bt1355.1 bt1355.2 bt1364.1 true a1_0 a1_1 a1_2 a2_0 a2_1))))))))
theorem laws_FnExactRayOf.mono_l : ∀ k, (∀ y0 y1 y2 y3 y4 y5 y6 y7 y8 y9 y10, LeO (laws_FnExactRayOf.j0 k y0 y1 y2 y3 y4 y5 y6 y7 y8 y9 y10) (laws_FnExactRayOf.j0 (k + 1) y0 y1 y2 y3 y4 y5 y6 y7 y8 y9 y10)) ∧ (∀ y0 y1 y2, LeO (laws_FnExactRayOf.j1 k y0 y1 y2) (laws_FnExactRayOf.j1 (k + 1) y0 y1 y2))
  | 0 => ⟨fun _ _ _ _ _ _ _ _ _ _ _ r h => by simp [laws_FnExactRayOf.j0] at h, fun _ _ _ r h => by simp [laws_FnExactRayOf.j1] at h⟩
  | k + 1 => by
    obtain ⟨ih0, ih1⟩ := laws_FnExactRayOf.mono_l k
    refine ⟨?_, ?_⟩
    · intro y0 y1 y2 y3 y4 y5 y6 y7 y8 y9 y10
      unfold laws_FnExactRayOf.j0
      repeat' first
      | (with_reducible exact ih0 _ _ _ _ _ _ _ _ _ _ _)
      | (with_reducible exact ih1 _ _ _)
      | (with_reducible exact impl_RayOf.mono _ _ _ _ _ _ _ _)
      | (with_reducible exact laws_eqBallS.mono _ _ _)
      | (with_reducible exact laws_heldBallS.mono _ _ _)
      | (with_reducible exact laws_markBallS.mono _ _ _)
      | (with_reducible exact spec_RayOf.mono _ _ _ _ _ _ _ _)
      | (with_reducible exact LeO.refl _)
      | (with_reducible exact LeO.none _)
      | (with_reducible refine LeO.ite ?_ ?_)
      | (with_reducible refine LeO.bind ?_ (fun _ => ?_))
      | exact ih0 _ _ _ _ _ _ _ _ _ _ _
      | exact ih1 _ _ _
      | exact impl_RayOf.mono _ _ _ _ _ _ _ _
      | exact laws_eqBallS.mono _ _ _
      | exact laws_heldBallS.mono _ _ _
      | exact laws_markBallS.mono _ _ _
      | exact spec_RayOf.mono _ _ _ _ _ _ _ _
      | exact LeO.none _
      | refine LeO.ite ?_ ?_
      | refine LeO.bind ?_ (fun _ => ?_)
    · intro y0 y1 y2
      unfold laws_FnExactRayOf.j1
      repeat' first
      | (with_reducible exact ih0 _ _ _ _ _ _ _ _ _ _ _)
      | (with_reducible exact ih1 _ _ _)
      | (with_reducible exact impl_RayOf.mono _ _ _ _ _ _ _ _)
      | (with_reducible exact laws_eqBallS.mono _ _ _)
      | (with_reducible exact laws_heldBallS.mono _ _ _)
      | (with_reducible exact laws_markBallS.mono _ _ _)
      | (with_reducible exact spec_RayOf.mono _ _ _ _ _ _ _ _)
      | (with_reducible exact LeO.refl _)
      | (with_reducible exact LeO.none _)
      | (with_reducible refine LeO.ite ?_ ?_)
      | (with_reducible refine LeO.bind ?_ (fun _ => ?_))
      | exact ih0 _ _ _ _ _ _ _ _ _ _ _
      | exact ih1 _ _ _
      | exact impl_RayOf.mono _ _ _ _ _ _ _ _
      | exact laws_eqBallS.mono _ _ _
      | exact laws_heldBallS.mono _ _ _
      | exact laws_markBallS.mono _ _ _
      | exact spec_RayOf.mono _ _ _ _ _ _ _ _
      | exact LeO.none _
      | refine LeO.ite ?_ ?_
      | refine LeO.bind ?_ (fun _ => ?_)
theorem laws_FnExactRayOf.mono : ∀ a0 a1 a2 a3 a4 a5 a6 k, LeO (laws_FnExactRayOf.f k a0 a1 a2 a3 a4 a5 a6) (laws_FnExactRayOf.f (k + 1) a0 a1 a2 a3 a4 a5 a6) := by
  intro a0 a1 a2 a3 a4 a5 a6 k
  obtain ⟨ih0, ih1⟩ := laws_FnExactRayOf.mono_l k
  unfold laws_FnExactRayOf.f
  repeat' first
      | (with_reducible exact ih0 _ _ _ _ _ _ _ _ _ _ _)
      | (with_reducible exact ih1 _ _ _)
      | (with_reducible exact impl_RayOf.mono _ _ _ _ _ _ _ _)
      | (with_reducible exact laws_eqBallS.mono _ _ _)
      | (with_reducible exact laws_heldBallS.mono _ _ _)
      | (with_reducible exact laws_markBallS.mono _ _ _)
      | (with_reducible exact spec_RayOf.mono _ _ _ _ _ _ _ _)
      | (with_reducible exact LeO.refl _)
      | (with_reducible exact LeO.none _)
      | (with_reducible refine LeO.ite ?_ ?_)
      | (with_reducible refine LeO.bind ?_ (fun _ => ?_))
      | exact ih0 _ _ _ _ _ _ _ _ _ _ _
      | exact ih1 _ _ _
      | exact impl_RayOf.mono _ _ _ _ _ _ _ _
      | exact laws_eqBallS.mono _ _ _
      | exact laws_heldBallS.mono _ _ _
      | exact laws_markBallS.mono _ _ _
      | exact spec_RayOf.mono _ _ _ _ _ _ _ _
      | exact LeO.none _
      | refine LeO.ite ?_ ?_
      | refine LeO.bind ?_ (fun _ => ?_)
def laws_FnExactRayOf.T1 : Bool × List (List Nat × List Nat) := (true, [([], []), ([], []), ([1], [1]), ([], []), ([3, 2], [3]), ([], []), ([0, 2, 4, 5, 4], [0, 2, 4, 5]), ([6], [6]), ([7], [7]), ([7], [7]), ([8, 6, 0, 1, 2, 3, 4, 5, 6, 7, 8], [8]), ([9, 10, 0, 1, 2, 3, 4, 5, 6, 7, 8, 9, 10], [9])])
def laws_FnExactRayOf.B1 : List Nat := [0, 0, 2, 0, 14, 0, 63, 127, 255, 255, 511, 2047]
theorem laws_FnExactRayOf.tab1 : rtab .any (opsOf Try.f14 1) = laws_FnExactRayOf.T1 := by kernel_rfl
theorem laws_FnExactRayOf.bits1 : waitsOk laws_FnExactRayOf.T1.2 laws_FnExactRayOf.B1 = true := by kernel_rfl
def laws_FnExactRayOf.T2 : Bool × List (List Nat × List Nat) := (true, [([], []), ([], []), ([1], [1]), ([], []), ([3, 2], [3]), ([], []), ([0, 2, 4, 5, 4], [0, 2, 4, 5]), ([6], [6]), ([7], [7]), ([7], [7]), ([8, 6, 0, 1, 2, 3, 4, 5, 6, 7, 8], [8]), ([9, 10, 0, 1, 2, 3, 4, 5, 6, 7, 8, 9, 10], [9])])
def laws_FnExactRayOf.B2 : List Nat := [0, 0, 2, 0, 14, 0, 63, 127, 255, 255, 511, 2047]
theorem laws_FnExactRayOf.tab2 : rtab .any (opsOf Try.f14 2) = laws_FnExactRayOf.T2 := by kernel_rfl
theorem laws_FnExactRayOf.bits2 : waitsOk laws_FnExactRayOf.T2.2 laws_FnExactRayOf.B2 = true := by kernel_rfl
def laws_FnExactRayOf.T13 : Bool × List (List Nat × List Nat) := (true, [([], []), ([], []), ([1], [1]), ([], []), ([3, 2], [3]), ([], []), ([0, 2, 4, 5, 4], [0, 2, 4, 5]), ([6], [6]), ([7], [7]), ([7], [7]), ([8, 6, 0, 1, 2, 3, 4, 5, 6, 7, 8], [8]), ([9, 10, 0, 1, 2, 3, 4, 5, 6, 7, 8, 9, 10], [9])])
def laws_FnExactRayOf.B13 : List Nat := [0, 0, 2, 0, 14, 0, 63, 127, 255, 255, 511, 2047]
theorem laws_FnExactRayOf.tab13 : rtab .any (opsOf Try.f14 13) = laws_FnExactRayOf.T13 := by kernel_rfl
theorem laws_FnExactRayOf.bits13 : waitsOk laws_FnExactRayOf.T13.2 laws_FnExactRayOf.B13 = true := by kernel_rfl
set_option maxHeartbeats 8000000 in
set_option maxRecDepth 100000 in
theorem laws_FnExactRayOf.calls (k : Nat) (a0 : Int) (a1_0 : Int) (a1_1 : Int) (a1_2 : Int) (a2_0 : Int) (a2_1 : Int) (a3 : Int) (r : Bool) (w : World) (h : laws_FnExactRayOf.f k a0 a1_0 a1_1 a1_2 a2_0 a2_1 a3 = some r) :
    Calls Try.prog 14 #[.int .i64 a0, .agg #[.int .i64 a1_0, .int .i64 a1_1, .int .i64 a1_2], .agg #[.int .i64 a2_0, .int .i64 a2_1], .int .i64 a3] w fun e w' => e = .returned (.bool r) ∧ Below w.heap.size w w' := by
  have hu31 := Try.underlying31
  have hu23 := Try.underlying23
  have HB := Aside0.mk (Below.refl w.heap.size w)
  have H : ((laws_toBall.f a1_0 a1_1 a1_2).bind fun bt1350 => ((laws_toEnd.f a2_0 a2_1).bind fun bt1353 => ((spec_RayOf.f k a0 bt1350.1 bt1350.2.1 bt1350.2.2 bt1353.1 bt1353.2 a3).bind fun bt1355 => ((laws_toBall.f a1_0 a1_1 a1_2).bind fun bt1359 => ((laws_toEnd.f a2_0 a2_1).bind fun bt1362 => ((impl_RayOf.f k a0 bt1359.1 bt1359.2.1 bt1359.2.2 bt1362.1 bt1362.2 a3).bind fun bt1364 => ((laws_eqBallS.f k bt1364.1 bt1355.1).bind fun t1368 => (if t1368 = true then (laws_FnExactRayOf.j0 k a0 a3 bt1355.1 bt1355.2 bt1364.1 (bt1364.2 != bt1355.2) a1_0 a1_1 a1_2 a2_0 a2_1) else (laws_FnExactRayOf.j0 k a0 a3 bt1355.1 bt1355.2 bt1364.1 true a1_0 a1_1 a1_2 a2_0 a2_1))))))))) = some r := h
  clear h
  replace H := Option.bind_eq_some_iff.mp H
  obtain ⟨⟨t1350, t1351, t1352⟩, A50, H⟩ := H
  replace H : ((laws_toEnd.f a2_0 a2_1).bind fun bt1353 => ((spec_RayOf.f k a0 t1350 t1351 t1352 bt1353.1 bt1353.2 a3).bind fun bt1355 => ((laws_toBall.f a1_0 a1_1 a1_2).bind fun bt1359 => ((laws_toEnd.f a2_0 a2_1).bind fun bt1362 => ((impl_RayOf.f k a0 bt1359.1 bt1359.2.1 bt1359.2.2 bt1362.1 bt1362.2 a3).bind fun bt1364 => ((laws_eqBallS.f k bt1364.1 bt1355.1).bind fun t1368 => (if t1368 = true then (laws_FnExactRayOf.j0 k a0 a3 bt1355.1 bt1355.2 bt1364.1 (bt1364.2 != bt1355.2) a1_0 a1_1 a1_2 a2_0 a2_1) else (laws_FnExactRayOf.j0 k a0 a3 bt1355.1 bt1355.2 bt1364.1 true a1_0 a1_1 a1_2 a2_0 a2_1)))))))) = some r := H
  have A5 := Aside0.mk A50
  clear A50
  replace H := Option.bind_eq_some_iff.mp H
  obtain ⟨⟨t1353, t1354⟩, A60, H⟩ := H
  replace H : ((spec_RayOf.f k a0 t1350 t1351 t1352 t1353 t1354 a3).bind fun bt1355 => ((laws_toBall.f a1_0 a1_1 a1_2).bind fun bt1359 => ((laws_toEnd.f a2_0 a2_1).bind fun bt1362 => ((impl_RayOf.f k a0 bt1359.1 bt1359.2.1 bt1359.2.2 bt1362.1 bt1362.2 a3).bind fun bt1364 => ((laws_eqBallS.f k bt1364.1 bt1355.1).bind fun t1368 => (if t1368 = true then (laws_FnExactRayOf.j0 k a0 a3 bt1355.1 bt1355.2 bt1364.1 (bt1364.2 != bt1355.2) a1_0 a1_1 a1_2 a2_0 a2_1) else (laws_FnExactRayOf.j0 k a0 a3 bt1355.1 bt1355.2 bt1364.1 true a1_0 a1_1 a1_2 a2_0 a2_1))))))) = some r := H
  have A6 := Aside0.mk A60
  clear A60
  replace H := Option.bind_eq_some_iff.mp H
  obtain ⟨⟨t1355, t1358⟩, A70, H⟩ := H
  replace H : ((laws_toBall.f a1_0 a1_1 a1_2).bind fun bt1359 => ((laws_toEnd.f a2_0 a2_1).bind fun bt1362 => ((impl_RayOf.f k a0 bt1359.1 bt1359.2.1 bt1359.2.2 bt1362.1 bt1362.2 a3).bind fun bt1364 => ((laws_eqBallS.f k bt1364.1 t1355).bind fun t1368 => (if t1368 = true then (laws_FnExactRayOf.j0 k a0 a3 t1355 t1358 bt1364.1 (bt1364.2 != t1358) a1_0 a1_1 a1_2 a2_0 a2_1) else (laws_FnExactRayOf.j0 k a0 a3 t1355 t1358 bt1364.1 true a1_0 a1_1 a1_2 a2_0 a2_1)))))) = some r := H
  have A7 := Aside0.mk A70
  clear A70
  replace H := Option.bind_eq_some_iff.mp H
  obtain ⟨⟨t1359, t1360, t1361⟩, A80, H⟩ := H
  replace H : ((laws_toEnd.f a2_0 a2_1).bind fun bt1362 => ((impl_RayOf.f k a0 t1359 t1360 t1361 bt1362.1 bt1362.2 a3).bind fun bt1364 => ((laws_eqBallS.f k bt1364.1 t1355).bind fun t1368 => (if t1368 = true then (laws_FnExactRayOf.j0 k a0 a3 t1355 t1358 bt1364.1 (bt1364.2 != t1358) a1_0 a1_1 a1_2 a2_0 a2_1) else (laws_FnExactRayOf.j0 k a0 a3 t1355 t1358 bt1364.1 true a1_0 a1_1 a1_2 a2_0 a2_1))))) = some r := H
  have A8 := Aside0.mk A80
  clear A80
  replace H := Option.bind_eq_some_iff.mp H
  obtain ⟨⟨t1362, t1363⟩, A90, H⟩ := H
  replace H : ((impl_RayOf.f k a0 t1359 t1360 t1361 t1362 t1363 a3).bind fun bt1364 => ((laws_eqBallS.f k bt1364.1 t1355).bind fun t1368 => (if t1368 = true then (laws_FnExactRayOf.j0 k a0 a3 t1355 t1358 bt1364.1 (bt1364.2 != t1358) a1_0 a1_1 a1_2 a2_0 a2_1) else (laws_FnExactRayOf.j0 k a0 a3 t1355 t1358 bt1364.1 true a1_0 a1_1 a1_2 a2_0 a2_1)))) = some r := H
  have A9 := Aside0.mk A90
  clear A90
  replace H := Option.bind_eq_some_iff.mp H
  obtain ⟨⟨t1364, t1367⟩, A100, H⟩ := H
  replace H : ((laws_eqBallS.f k t1364 t1355).bind fun t1368 => (if t1368 = true then (laws_FnExactRayOf.j0 k a0 a3 t1355 t1358 t1364 (t1367 != t1358) a1_0 a1_1 a1_2 a2_0 a2_1) else (laws_FnExactRayOf.j0 k a0 a3 t1355 t1358 t1364 true a1_0 a1_1 a1_2 a2_0 a2_1))) = some r := H
  have A10 := Aside0.mk A100
  clear A100
  have HC11 := Aside0.mk H
  clear H
  go_enter Try.func14, Try.ntmps14
  try go_wp2_with (first | ((with_reducible refine gate_dst (N := 5) rfl ?_); refine box_event ?hg (N := 5) ?hd (cs := #[.int .i64 a1_0, .int .i64 a1_1, .int .i64 a1_2]) (t := 31) ?hr ?_; (case hd => rfl); (case hg => rfl); (case hr => first | (go_simp; done) | (go_simp; rfl)); intro gb1348 hg w12 hbox hb; have n0_ := Aside0.mk (below_step blA hb); have n1_ := Aside0.mk (hbox); have n2_ := Aside0.mk (szA hg blA); have n3_ := Aside0.mk (szA hg blA); clear HB; have HB := n0_; have BK1348 := n1_; have GW1348 := n2_; have GE1348 := n3_; clear n0_ n1_ n2_ n3_; clear hb hbox hg) | ((with_reducible refine gate_dst (N := 6) rfl ?_); refine box_event ?hg (N := 6) ?hd (cs := #[.int .i64 a2_0, .int .i64 a2_1]) (t := 23) ?hr ?_; (case hd => rfl); (case hg => rfl); (case hr => first | (go_simp; done) | (go_simp; rfl)); intro gb1349 hg w13 hbox hb; have n0_ := Aside0.mk (blk_below (bkA BK1348) hb); have n1_ := Aside0.mk (below_step blA hb); have n2_ := Aside0.mk (hbox); have n3_ := Aside0.mk (szA hg blA); have n4_ := Aside0.mk (szA hg blA); have n5_ := Aside0.mk (neA hg (bkA BK1348)); have n6_ := Aside0.mk (neB hg (bkA BK1348)); clear BK1348; clear HB; have BK1348 := n0_; have HB := n1_; have BK1349 := n2_; have GW1349 := n3_; have GE1349 := n4_; have NB1348_1349 := n5_; have NB1349_1348 := n6_; clear n0_ n1_ n2_ n3_ n4_ n5_ n6_; clear hb hbox hg))
  have n0_ := Aside0.mk (blk_drew BK1348.out)
  have n1_ := Aside0.mk (blk_drew BK1349.out)
  have n2_ := Aside0.mk (below_drew1 HB.out)
  clear BK1348
  clear BK1349
  clear HB
  have BK1348 := n0_
  have BK1349 := n1_
  have HB := n2_
  clear n0_ n1_ n2_
  refine start_ (n := 12) (S := fun w' => w'.cell? ⟨gb1348, 0, none⟩ = some (.int .i64 a1_0) ∧ w'.cell? ⟨gb1348, 1, none⟩ = some (.int .i64 a1_1) ∧ w'.cell? ⟨gb1348, 2, none⟩ = some (.int .i64 a1_2) ∧ w'.cell? ⟨gb1349, 0, none⟩ = some (.int .i64 a2_0) ∧ w'.cell? ⟨gb1349, 1, none⟩ = some (.int .i64 a2_1)) (ds := []) #[false, false, false, false, false, false, false, false, false, false, false, false] (by kernel_rfl) rfl rfl ⟨(blk_cell BK1348.out 0).trans rfl, (blk_cell BK1348.out 1).trans rfl, (blk_cell BK1348.out 2).trans rfl, (blk_cell BK1349.out 0).trans rfl, (blk_cell BK1349.out 1).trans rfl⟩ (fun hHeld => ?_); refine with_tabW laws_FnExactRayOf.tab1 laws_FnExactRayOf.bits1 (fun HT_ HW_ => ?_)
  generalize w13.drew = w14 at BK1348 BK1349 HB hHeld ⊢
  refine pure_ (i := 0) (N := some 18) (v := ?_) (a' := ?_) #[true, false, false, false, false, false, false, false, false, false, false, false] rfl rfl (any_of HT_.out (by kernel_rfl)) (fun _ _ _ h => h) (Or.inl ⟨by rfl, ?_⟩) ?_ ?_
  rotate_left
  · intro w'
    go_simp
    with_reducible rfl
  rotate_left
  · simp only [Act.put, List.setIfInBounds_toArray, List.set_cons_zero, List.set_cons_succ, i64_w, i32_w]
    rfl
  refine pure_ (i := 5) (N := some 23) (v := ?_) (a' := ?_) #[true, false, false, false, false, true, false, false, false, false, false, false] rfl rfl (any_of HT_.out (by kernel_rfl)) (fun _ _ _ h => h) (Or.inl ⟨by rfl, ?_⟩) ?_ ?_
  rotate_left
  · intro w'
    go_simp
    with_reducible rfl
  rotate_left
  · simp only [Act.put, List.setIfInBounds_toArray, List.set_cons_zero, List.set_cons_succ, i64_w, i32_w]
    rfl
  refine take_ (i := 1) (N := some 19) (v := ?_) (a' := ?_) #[true, true, false, false, false, true, false, false, false, false, false, false] rfl rfl (take_ofW HT_.out HW_.out (by kernel_rfl)) (fun _ _ _ h => h) (Or.inl ⟨by rfl, ?_⟩) hHeld ?_ ?_
  rotate_left
  · rintro w' ⟨s0, s1, s2, s3, s4⟩
    go_simp
    with_reducible rfl
  rotate_left
  · simp only [Act.put, List.setIfInBounds_toArray, List.set_cons_zero, List.set_cons_succ, i64_w, i32_w]
    rfl
  refine take_ (i := 3) (N := some 21) (v := ?_) (a' := ?_) #[true, true, false, true, false, true, false, false, false, false, false, false] rfl rfl (take_ofW HT_.out HW_.out (by kernel_rfl)) (fun _ _ _ h => h) (Or.inl ⟨by rfl, ?_⟩) hHeld ?_ ?_
  rotate_left
  · rintro w' ⟨s0, s1, s2, s3, s4⟩
    go_simp
    with_reducible rfl
  rotate_left
  · simp only [Act.put, List.setIfInBounds_toArray, List.set_cons_zero, List.set_cons_succ, i64_w, i32_w]
    rfl
  refine one_ (i := 2) (N := some 20) #[true, true, true, true, false, true, false, false, false, false, false, false] rfl rfl (one_of HT_.out (by kernel_rfl)) (by decide) (fun K hK => ?_)
  refine goes_ Try.func20 (by kernel_rfl) rfl #[.agg #[.int .i64 a1_0, .int .i64 a1_1, .int .i64 a1_2]] (by rfl) rfl rfl (by (try simp only [List.map_toArray, List.map_cons, List.map_nil]); first | done | rfl | (simp only [List.length_drop, List.length_take]; rfl)) ?_
  with_reducible refine (laws_toBall.calls a1_0 a1_1 a1_2 t1350 t1351 t1352 _ A5.out).mono ?_
  rintro e w15 ⟨rfl, hb⟩
  refine ⟨_, rfl, ?_⟩
  have n0_ := Aside0.mk (blk_below (bkA BK1348) hb)
  have n1_ := Aside0.mk (blk_below (bkA BK1349) hb)
  have n2_ := Aside0.mk (below_step blA hb)
  clear BK1348
  clear BK1349
  clear HB
  have BK1348 := n0_
  have BK1349 := n1_
  have HB := n2_
  clear n0_ n1_ n2_
  (try clear hb)
  (try clear hb2)
  (try clear hk)
  (try clear hi)
  refine hK.out _ _ ⟨(blk_cell BK1348.out 0).trans rfl, (blk_cell BK1348.out 1).trans rfl, (blk_cell BK1348.out 2).trans rfl, (blk_cell BK1349.out 0).trans rfl, (blk_cell BK1349.out 1).trans rfl⟩ (fun hHeld => ?_)
  clear hK K
  refine norm_ (a' := ?_) ?_ ?_
  rotate_left
  · show Act.put _ (some 20) _ = _
    simp only [Act.put, List.setIfInBounds_toArray, List.set_cons_zero, List.set_cons_succ, i64_w, i32_w]
    rfl
  refine one_ (i := 4) (N := some 22) #[true, true, true, true, true, true, false, false, false, false, false, false] rfl rfl (one_of HT_.out (by kernel_rfl)) (by decide) (fun K hK => ?_)
  refine goes_ Try.func16 (by kernel_rfl) rfl #[.agg #[.int .i64 a2_0, .int .i64 a2_1]] (by rfl) rfl rfl (by (try simp only [List.map_toArray, List.map_cons, List.map_nil]); first | done | rfl | (simp only [List.length_drop, List.length_take]; rfl)) ?_
  with_reducible refine (laws_toEnd.calls a2_0 a2_1 t1353 t1354 _ A6.out).mono ?_
  rintro e w16 ⟨rfl, hb⟩
  refine ⟨_, rfl, ?_⟩
  have n0_ := Aside0.mk (blk_below (bkA BK1348) hb)
  have n1_ := Aside0.mk (blk_below (bkA BK1349) hb)
  have n2_ := Aside0.mk (below_step blA hb)
  clear BK1348
  clear BK1349
  clear HB
  have BK1348 := n0_
  have BK1349 := n1_
  have HB := n2_
  clear n0_ n1_ n2_
  (try clear hb)
  (try clear hb2)
  (try clear hk)
  (try clear hi)
  refine hK.out _ _ ⟨(blk_cell BK1348.out 0).trans rfl, (blk_cell BK1348.out 1).trans rfl, (blk_cell BK1348.out 2).trans rfl, (blk_cell BK1349.out 0).trans rfl, (blk_cell BK1349.out 1).trans rfl⟩ (fun hHeld => ?_)
  clear hK K
  refine norm_ (a' := ?_) ?_ ?_
  rotate_left
  · show Act.put _ (some 22) _ = _
    simp only [Act.put, List.setIfInBounds_toArray, List.set_cons_zero, List.set_cons_succ, i64_w, i32_w]
    rfl
  refine one_ (i := 6) (N := some 24) #[true, true, true, true, true, true, true, false, false, false, false, false] rfl rfl (one_of HT_.out (by kernel_rfl)) (by decide) (fun K hK => ?_)
  refine goes_ Try.func50 (by kernel_rfl) rfl #[.int .i64 a0, .agg #[.int .i64 t1350, .int .i64 t1351, .int .i64 t1352], .agg #[.int .i64 t1353, .int .i64 t1354], .int .i64 a3] (by rfl) rfl rfl (by (try simp only [List.map_toArray, List.map_cons, List.map_nil]); first | done | rfl | (simp only [List.length_drop, List.length_take]; rfl)) ?_
  with_reducible refine (spec_RayOf.calls k a0 t1350 t1351 t1352 t1353 t1354 a3 t1355 t1358 _ A7.out).mono ?_
  rintro e w17 ⟨v1356, rfl, ho0, hb⟩
  refine ⟨_, rfl, ?_⟩
  have n0_ := Aside0.mk (Kd.R_lower ho0 (below_size blA))
  have n1_ := Aside0.mk (blk_below (bkA BK1348) hb)
  have n2_ := Aside0.mk (blk_below (bkA BK1349) hb)
  have n3_ := Aside0.mk (below_step blA hb)
  clear BK1348
  clear BK1349
  clear HB
  have HO1357 := n0_
  have BK1348 := n1_
  have BK1349 := n2_
  have HB := n3_
  clear n0_ n1_ n2_ n3_
  (try clear hb)
  (try clear hb2)
  (try clear hk)
  (try clear hi)
  (try clear ho0)
  refine hK.out _ _ ⟨(blk_cell BK1348.out 0).trans rfl, (blk_cell BK1348.out 1).trans rfl, (blk_cell BK1348.out 2).trans rfl, (blk_cell BK1349.out 0).trans rfl, (blk_cell BK1349.out 1).trans rfl⟩ (fun hHeld => ?_)
  clear hK K
  refine norm_ (a' := ?_) ?_ ?_
  rotate_left
  · show Act.put _ (some 24) _ = _
    simp only [Act.put, List.setIfInBounds_toArray, List.set_cons_zero, List.set_cons_succ, i64_w, i32_w]
    rfl
  refine pure_ (i := 7) (N := some 17) (v := ?_) (a' := ?_) #[true, true, true, true, true, true, true, true, false, false, false, false] rfl rfl (any_of HT_.out (by kernel_rfl)) (fun _ _ _ h => h) (Or.inl ⟨by rfl, ?_⟩) ?_ ?_
  rotate_left
  · intro w'
    go_simp
    with_reducible rfl
  rotate_left
  · simp only [Act.put, List.setIfInBounds_toArray, List.set_cons_zero, List.set_cons_succ, i64_w, i32_w]
    rfl
  refine pure_ (i := 8) (N := some 25) (v := ?_) (a' := ?_) #[true, true, true, true, true, true, true, true, true, false, false, false] rfl rfl (any_of HT_.out (by kernel_rfl)) (fun _ _ _ h => h) (Or.inl ⟨by rfl, ?_⟩) ?_ ?_
  rotate_left
  · intro w'
    go_simp
    with_reducible rfl
  rotate_left
  · simp only [Act.put, List.setIfInBounds_toArray, List.set_cons_zero, List.set_cons_succ, i64_w, i32_w]
    rfl
  refine pure_ (i := 9) (N := some 26) (v := ?_) (a' := ?_) #[true, true, true, true, true, true, true, true, true, true, false, false] rfl rfl (any_of HT_.out (by kernel_rfl)) (fun _ _ _ h => h) (Or.inl ⟨by rfl, ?_⟩) ?_ ?_
  rotate_left
  · intro w'
    go_simp
    with_reducible rfl
  rotate_left
  · simp only [Act.put, List.setIfInBounds_toArray, List.set_cons_zero, List.set_cons_succ, i64_w, i32_w]
    rfl
  refine pure_ (i := 10) (N := some 9) (v := ?_) (a' := ?_) #[true, true, true, true, true, true, true, true, true, true, true, false] rfl rfl (any_of HT_.out (by kernel_rfl)) (fun _ _ _ h => h) (Or.inl ⟨by rfl, ?_⟩) ?_ ?_
  rotate_left
  · intro w'
    go_simp
    with_reducible rfl
  rotate_left
  · simp only [Act.put, List.setIfInBounds_toArray, List.set_cons_zero, List.set_cons_succ, i64_w, i32_w]
    rfl
  refine pure_ (i := 11) (N := some 10) (v := ?_) (a' := ?_) #[true, true, true, true, true, true, true, true, true, true, true, true] rfl rfl (any_of HT_.out (by kernel_rfl)) (fun _ _ _ h => h) (Or.inl ⟨by rfl, ?_⟩) ?_ ?_
  rotate_left
  · intro w'
    go_simp
    with_reducible rfl
  rotate_left
  · simp only [Act.put, List.setIfInBounds_toArray, List.set_cons_zero, List.set_cons_succ, i64_w, i32_w]
    rfl
  refine done_ (done_of HT_.out (by kernel_rfl)) ?_
  try go_wp2
  have n0_ := Aside0.mk (Kd.R_drew HO1357.out)
  have n1_ := Aside0.mk (blk_drew BK1348.out)
  have n2_ := Aside0.mk (blk_drew BK1349.out)
  have n3_ := Aside0.mk (below_drew1 HB.out)
  clear HO1357
  clear BK1348
  clear BK1349
  clear HB
  have HO1357 := n0_
  have BK1348 := n1_
  have BK1349 := n2_
  have HB := n3_
  clear n0_ n1_ n2_ n3_
  refine start_ (n := 12) (S := fun w' => w'.cell? ⟨gb1348, 0, none⟩ = some (.int .i64 a1_0) ∧ w'.cell? ⟨gb1348, 1, none⟩ = some (.int .i64 a1_1) ∧ w'.cell? ⟨gb1348, 2, none⟩ = some (.int .i64 a1_2) ∧ w'.cell? ⟨gb1349, 0, none⟩ = some (.int .i64 a2_0) ∧ w'.cell? ⟨gb1349, 1, none⟩ = some (.int .i64 a2_1)) (ds := []) #[false, false, false, false, false, false, false, false, false, false, false, false] (by kernel_rfl) rfl rfl ⟨(blk_cell BK1348.out 0).trans rfl, (blk_cell BK1348.out 1).trans rfl, (blk_cell BK1348.out 2).trans rfl, (blk_cell BK1349.out 0).trans rfl, (blk_cell BK1349.out 1).trans rfl⟩ (fun hHeld => ?_); refine with_tabW laws_FnExactRayOf.tab2 laws_FnExactRayOf.bits2 (fun HT_ HW_ => ?_)
  generalize w17.drew = w18 at HO1357 BK1348 BK1349 HB hHeld ⊢
  refine pure_ (i := 0) (N := some 28) (v := ?_) (a' := ?_) #[true, false, false, false, false, false, false, false, false, false, false, false] rfl rfl (any_of HT_.out (by kernel_rfl)) (fun _ _ _ h => h) (Or.inl ⟨by rfl, ?_⟩) ?_ ?_
  rotate_left
  · intro w'
    go_simp
    with_reducible rfl
  rotate_left
  · simp only [Act.put, List.setIfInBounds_toArray, List.set_cons_zero, List.set_cons_succ, i64_w, i32_w]
    rfl
  refine pure_ (i := 5) (N := some 33) (v := ?_) (a' := ?_) #[true, false, false, false, false, true, false, false, false, false, false, false] rfl rfl (any_of HT_.out (by kernel_rfl)) (fun _ _ _ h => h) (Or.inl ⟨by rfl, ?_⟩) ?_ ?_
  rotate_left
  · intro w'
    go_simp
    with_reducible rfl
  rotate_left
  · simp only [Act.put, List.setIfInBounds_toArray, List.set_cons_zero, List.set_cons_succ, i64_w, i32_w]
    rfl
  refine take_ (i := 1) (N := some 29) (v := ?_) (a' := ?_) #[true, true, false, false, false, true, false, false, false, false, false, false] rfl rfl (take_ofW HT_.out HW_.out (by kernel_rfl)) (fun _ _ _ h => h) (Or.inl ⟨by rfl, ?_⟩) hHeld ?_ ?_
  rotate_left
  · rintro w' ⟨s0, s1, s2, s3, s4⟩
    go_simp
    with_reducible rfl
  rotate_left
  · simp only [Act.put, List.setIfInBounds_toArray, List.set_cons_zero, List.set_cons_succ, i64_w, i32_w]
    rfl
  refine take_ (i := 3) (N := some 31) (v := ?_) (a' := ?_) #[true, true, false, true, false, true, false, false, false, false, false, false] rfl rfl (take_ofW HT_.out HW_.out (by kernel_rfl)) (fun _ _ _ h => h) (Or.inl ⟨by rfl, ?_⟩) hHeld ?_ ?_
  rotate_left
  · rintro w' ⟨s0, s1, s2, s3, s4⟩
    go_simp
    with_reducible rfl
  rotate_left
  · simp only [Act.put, List.setIfInBounds_toArray, List.set_cons_zero, List.set_cons_succ, i64_w, i32_w]
    rfl
  refine one_ (i := 2) (N := some 30) #[true, true, true, true, false, true, false, false, false, false, false, false] rfl rfl (one_of HT_.out (by kernel_rfl)) (by decide) (fun K hK => ?_)
  refine goes_ Try.func20 (by kernel_rfl) rfl #[.agg #[.int .i64 a1_0, .int .i64 a1_1, .int .i64 a1_2]] (by rfl) rfl rfl (by (try simp only [List.map_toArray, List.map_cons, List.map_nil]); first | done | rfl | (simp only [List.length_drop, List.length_take]; rfl)) ?_
  with_reducible refine (laws_toBall.calls a1_0 a1_1 a1_2 t1359 t1360 t1361 _ A8.out).mono ?_
  rintro e w19 ⟨rfl, hb⟩
  refine ⟨_, rfl, ?_⟩
  have n0_ := Aside0.mk (Kd.R_below (by (with_reducible repeat (first | apply Kd.R_alloc | apply Kd.R_drewN | apply Kd.R_drew)); exact HO1357.out) hb)
  have n1_ := Aside0.mk (blk_below (bkA BK1348) hb)
  have n2_ := Aside0.mk (blk_below (bkA BK1349) hb)
  have n3_ := Aside0.mk (below_step blA hb)
  clear HO1357
  clear BK1348
  clear BK1349
  clear HB
  have HO1357 := n0_
  have BK1348 := n1_
  have BK1349 := n2_
  have HB := n3_
  clear n0_ n1_ n2_ n3_
  (try clear hb)
  (try clear hb2)
  (try clear hk)
  (try clear hi)
  refine hK.out _ _ ⟨(blk_cell BK1348.out 0).trans rfl, (blk_cell BK1348.out 1).trans rfl, (blk_cell BK1348.out 2).trans rfl, (blk_cell BK1349.out 0).trans rfl, (blk_cell BK1349.out 1).trans rfl⟩ (fun hHeld => ?_)
  clear hK K
  refine norm_ (a' := ?_) ?_ ?_
  rotate_left
  · show Act.put _ (some 30) _ = _
    simp only [Act.put, List.setIfInBounds_toArray, List.set_cons_zero, List.set_cons_succ, i64_w, i32_w]
    rfl
  refine one_ (i := 4) (N := some 32) #[true, true, true, true, true, true, false, false, false, false, false, false] rfl rfl (one_of HT_.out (by kernel_rfl)) (by decide) (fun K hK => ?_)
  refine goes_ Try.func16 (by kernel_rfl) rfl #[.agg #[.int .i64 a2_0, .int .i64 a2_1]] (by rfl) rfl rfl (by (try simp only [List.map_toArray, List.map_cons, List.map_nil]); first | done | rfl | (simp only [List.length_drop, List.length_take]; rfl)) ?_
  with_reducible refine (laws_toEnd.calls a2_0 a2_1 t1362 t1363 _ A9.out).mono ?_
  rintro e w20 ⟨rfl, hb⟩
  refine ⟨_, rfl, ?_⟩
  have n0_ := Aside0.mk (Kd.R_below (by (with_reducible repeat (first | apply Kd.R_alloc | apply Kd.R_drewN | apply Kd.R_drew)); exact HO1357.out) hb)
  have n1_ := Aside0.mk (blk_below (bkA BK1348) hb)
  have n2_ := Aside0.mk (blk_below (bkA BK1349) hb)
  have n3_ := Aside0.mk (below_step blA hb)
  clear HO1357
  clear BK1348
  clear BK1349
  clear HB
  have HO1357 := n0_
  have BK1348 := n1_
  have BK1349 := n2_
  have HB := n3_
  clear n0_ n1_ n2_ n3_
  (try clear hb)
  (try clear hb2)
  (try clear hk)
  (try clear hi)
  refine hK.out _ _ ⟨(blk_cell BK1348.out 0).trans rfl, (blk_cell BK1348.out 1).trans rfl, (blk_cell BK1348.out 2).trans rfl, (blk_cell BK1349.out 0).trans rfl, (blk_cell BK1349.out 1).trans rfl⟩ (fun hHeld => ?_)
  clear hK K
  refine norm_ (a' := ?_) ?_ ?_
  rotate_left
  · show Act.put _ (some 32) _ = _
    simp only [Act.put, List.setIfInBounds_toArray, List.set_cons_zero, List.set_cons_succ, i64_w, i32_w]
    rfl
  refine one_ (i := 6) (N := some 34) #[true, true, true, true, true, true, true, false, false, false, false, false] rfl rfl (one_of HT_.out (by kernel_rfl)) (by decide) (fun K hK => ?_)
  refine goes_ Try.func51 (by kernel_rfl) rfl #[.int .i64 a0, .agg #[.int .i64 t1359, .int .i64 t1360, .int .i64 t1361], .agg #[.int .i64 t1362, .int .i64 t1363], .int .i64 a3] (by rfl) rfl rfl (by (try simp only [List.map_toArray, List.map_cons, List.map_nil]); first | done | rfl | (simp only [List.length_drop, List.length_take]; rfl)) ?_
  with_reducible refine (impl_RayOf.calls k a0 t1359 t1360 t1361 t1362 t1363 a3 t1364 t1367 _ A10.out).mono ?_
  rintro e w21 ⟨v1365, rfl, ho0, hb⟩
  refine ⟨_, rfl, ?_⟩
  have n0_ := Aside0.mk (Kd.R_elder' (by (with_reducible repeat (first | apply Kd.R_alloc | apply Kd.R_drewN | apply Kd.R_drew)); exact HO1357.out) (Kd.R_base ho0) hb)
  have n1_ := Aside0.mk (Kd.R_lower (Kd.R_new' ho0 (Kd.R_lt (by (with_reducible repeat (first | apply Kd.R_alloc | apply Kd.R_drewN | apply Kd.R_drew)); exact HO1357.out))) (below_size blA))
  have n2_ := Aside0.mk (blk_below (bkA BK1348) hb)
  have n3_ := Aside0.mk (blk_below (bkA BK1349) hb)
  have n4_ := Aside0.mk (below_step blA hb)
  clear HO1357
  clear BK1348
  clear BK1349
  clear HB
  have HO1357 := n0_
  have HO1366 := n1_
  have BK1348 := n2_
  have BK1349 := n3_
  have HB := n4_
  clear n0_ n1_ n2_ n3_ n4_
  (try clear hb)
  (try clear hb2)
  (try clear hk)
  (try clear hi)
  (try clear ho0)
  refine hK.out _ _ ⟨(blk_cell BK1348.out 0).trans rfl, (blk_cell BK1348.out 1).trans rfl, (blk_cell BK1348.out 2).trans rfl, (blk_cell BK1349.out 0).trans rfl, (blk_cell BK1349.out 1).trans rfl⟩ (fun hHeld => ?_)
  clear hK K
  refine norm_ (a' := ?_) ?_ ?_
  rotate_left
  · show Act.put _ (some 34) _ = _
    simp only [Act.put, List.setIfInBounds_toArray, List.set_cons_zero, List.set_cons_succ, i64_w, i32_w]
    rfl
  refine pure_ (i := 7) (N := some 27) (v := ?_) (a' := ?_) #[true, true, true, true, true, true, true, true, false, false, false, false] rfl rfl (any_of HT_.out (by kernel_rfl)) (fun _ _ _ h => h) (Or.inl ⟨by rfl, ?_⟩) ?_ ?_
  rotate_left
  · intro w'
    go_simp
    with_reducible rfl
  rotate_left
  · simp only [Act.put, List.setIfInBounds_toArray, List.set_cons_zero, List.set_cons_succ, i64_w, i32_w]
    rfl
  refine pure_ (i := 8) (N := some 35) (v := ?_) (a' := ?_) #[true, true, true, true, true, true, true, true, true, false, false, false] rfl rfl (any_of HT_.out (by kernel_rfl)) (fun _ _ _ h => h) (Or.inl ⟨by rfl, ?_⟩) ?_ ?_
  rotate_left
  · intro w'
    go_simp
    with_reducible rfl
  rotate_left
  · simp only [Act.put, List.setIfInBounds_toArray, List.set_cons_zero, List.set_cons_succ, i64_w, i32_w]
    rfl
  refine pure_ (i := 9) (N := some 36) (v := ?_) (a' := ?_) #[true, true, true, true, true, true, true, true, true, true, false, false] rfl rfl (any_of HT_.out (by kernel_rfl)) (fun _ _ _ h => h) (Or.inl ⟨by rfl, ?_⟩) ?_ ?_
  rotate_left
  · intro w'
    go_simp
    with_reducible rfl
  rotate_left
  · simp only [Act.put, List.setIfInBounds_toArray, List.set_cons_zero, List.set_cons_succ, i64_w, i32_w]
    rfl
  refine pure_ (i := 10) (N := some 11) (v := ?_) (a' := ?_) #[true, true, true, true, true, true, true, true, true, true, true, false] rfl rfl (any_of HT_.out (by kernel_rfl)) (fun _ _ _ h => h) (Or.inl ⟨by rfl, ?_⟩) ?_ ?_
  rotate_left
  · intro w'
    go_simp
    with_reducible rfl
  rotate_left
  · simp only [Act.put, List.setIfInBounds_toArray, List.set_cons_zero, List.set_cons_succ, i64_w, i32_w]
    rfl
  refine pure_ (i := 11) (N := some 12) (v := ?_) (a' := ?_) #[true, true, true, true, true, true, true, true, true, true, true, true] rfl rfl (any_of HT_.out (by kernel_rfl)) (fun _ _ _ h => h) (Or.inl ⟨by rfl, ?_⟩) ?_ ?_
  rotate_left
  · intro w'
    go_simp
    with_reducible rfl
  rotate_left
  · simp only [Act.put, List.setIfInBounds_toArray, List.set_cons_zero, List.set_cons_succ, i64_w, i32_w]
    rfl
  refine done_ (done_of HT_.out (by kernel_rfl)) ?_
  go_upto_region 3 with (fail)
  go_cut [45] (fun v45 wc => ∃ (kq : Nat) (x45_10 : Bool), v45 = .bool x45_10 ∧ Aside0 (laws_FnExactRayOf.j0 kq a0 a3 t1355 t1358 t1364 x45_10 a1_0 a1_1 a1_2 a2_0 a2_1 = some r) ∧ Aside0 (kq ≤ k) ∧ Aside0 (Kd.R k34 34 wc w.heap.size (fun k_ => some k_ ≠ (v1365 : Value).ownBlock) v1356 t1355) ∧ Aside0 (Kd.R k34 34 wc w.heap.size (fun k_ => some k_ ≠ (v1356 : Value).ownBlock) v1365 t1364) ∧ Aside0 (wc.heap[gb1348]? = some (.cells #[.int .i64 a1_0, .int .i64 a1_1, .int .i64 a1_2] 31 (0, 0))) ∧ Aside0 (wc.heap[gb1349]? = some (.cells #[.int .i64 a2_0, .int .i64 a2_1] 23 (0, 0))) ∧ Aside0 (Below w.heap.size w wc))
  case first =>
    have H := HC11.out
    clear HC11
    replace H := Option.bind_eq_some_iff.mp H
    obtain ⟨t1368, A220, H⟩ := H
    replace H : (if t1368 = true then (laws_FnExactRayOf.j0 k a0 a3 t1355 t1358 t1364 (t1367 != t1358) a1_0 a1_1 a1_2 a2_0 a2_1) else (laws_FnExactRayOf.j0 k a0 a3 t1355 t1358 t1364 true a1_0 a1_1 a1_2 a2_0 a2_1)) = some r := H
    have A22 := Aside0.mk A220
    clear A220
    by_cases c23 : t1368 = true
    · subst c23
      have H1 : (laws_FnExactRayOf.j0 k a0 a3 t1355 t1358 t1364 (t1367 != t1358) a1_0 a1_1 a1_2 a2_0 a2_1) = some r := by rw [if_pos rfl] at H; exact H
      clear H
      have H := H1
      clear H1
      have H' := Aside0.mk H
      clear H
      obtain ⟨Ao24, co24, eo24⟩ := Kd.R_slice HO1366.out
      subst eo24
      obtain ⟨Ao25, co25, eo25⟩ := Kd.R_slice HO1357.out
      subst eo25
      go_wp2_with (first | ((with_reducible refine gate_callee (f := 43) rfl ?_); refine goesL_ (some 39) rfl rfl Try.func43 (by kernel_rfl) rfl #[.slice Ao24 t1364.length co24, .slice Ao25 t1355.length co25] rfl (by (try simp only [List.map_toArray, List.map_cons, List.map_nil]); first | done | rfl | (simp only [List.length_drop, List.length_take]; rfl)) ?_; (with_reducible refine (laws_eqBallS.calls k _ _ t1364 _ _ t1355 true _ ?side1 ?side2 ?side3 ?side4 A22.out).mono ?_); (case side1 => repeat (first | exact (Kd.R_reads' HO1366.out).2.2 | (with_reducible refine Kd.C_alloc ?_ _) | (with_reducible refine Kd.C_drewN ?_ _) | (with_reducible refine Kd.C_drew ?_))); (case side2 => exact (Kd.R_reads' HO1366.out).2.1); (case side3 => repeat (first | exact (Kd.R_reads' HO1357.out).2.2 | (with_reducible refine Kd.C_alloc ?_ _) | (with_reducible refine Kd.C_drewN ?_ _) | (with_reducible refine Kd.C_drew ?_))); (case side4 => exact (Kd.R_reads' HO1357.out).2.1); rintro e w26 ⟨rfl, hb⟩; refine ⟨_, rfl, ?_⟩; have n0_ := Aside0.mk (Kd.R_below (by (with_reducible repeat (first | apply Kd.R_alloc | apply Kd.R_drewN | apply Kd.R_drew)); exact HO1357.out) hb); have n1_ := Aside0.mk (Kd.R_below (by (with_reducible repeat (first | apply Kd.R_alloc | apply Kd.R_drewN | apply Kd.R_drew)); exact HO1366.out) hb); have n2_ := Aside0.mk (blk_below (bkA BK1348) hb); have n3_ := Aside0.mk (blk_below (bkA BK1349) hb); have n4_ := Aside0.mk (below_step blA hb); clear HO1357; clear HO1366; clear BK1348; clear BK1349; clear HB; have HO1357 := n0_; have HO1366 := n1_; have BK1348 := n2_; have BK1349 := n3_; have HB := n4_; clear n0_ n1_ n2_ n3_ n4_; (try clear hb); (try clear hb2); (try clear hk); (try clear hi)))
      go_meet
      case rel => exact ⟨_, ((t1367 != t1358)), (by first | rfl | (simp; done) | (simp [*]; done)), H', ⟨by first | omega | exact Nat.le_refl _⟩, ⟨by (with_reducible repeat (first | apply Kd.R_alloc | apply Kd.R_drewN | apply Kd.R_drew)); exact Kd.R_mono HO1357.out (fun _ hk => hk.2)⟩, ⟨by (with_reducible repeat (first | apply Kd.R_alloc | apply Kd.R_drewN | apply Kd.R_drew)); exact Kd.R_mono HO1366.out (fun _ hk => hk.2)⟩, ⟨bkA BK1348⟩, ⟨bkA BK1349⟩, ⟨blA⟩⟩
    · replace c23 := Bool.eq_false_iff.mpr c23
      subst c23
      have H1 : (laws_FnExactRayOf.j0 k a0 a3 t1355 t1358 t1364 true a1_0 a1_1 a1_2 a2_0 a2_1) = some r := by rw [if_neg (show ¬ (false = true) by decide)] at H; exact H
      clear H
      have H := H1
      clear H1
      have H' := Aside0.mk H
      clear H
      obtain ⟨Ao27, co27, eo27⟩ := Kd.R_slice HO1366.out
      subst eo27
      obtain ⟨Ao28, co28, eo28⟩ := Kd.R_slice HO1357.out
      subst eo28
      go_wp2_with (first | ((with_reducible refine gate_callee (f := 43) rfl ?_); refine goesL_ (some 39) rfl rfl Try.func43 (by kernel_rfl) rfl #[.slice Ao27 t1364.length co27, .slice Ao28 t1355.length co28] rfl (by (try simp only [List.map_toArray, List.map_cons, List.map_nil]); first | done | rfl | (simp only [List.length_drop, List.length_take]; rfl)) ?_; (with_reducible refine (laws_eqBallS.calls k _ _ t1364 _ _ t1355 false _ ?side1 ?side2 ?side3 ?side4 A22.out).mono ?_); (case side1 => repeat (first | exact (Kd.R_reads' HO1366.out).2.2 | (with_reducible refine Kd.C_alloc ?_ _) | (with_reducible refine Kd.C_drewN ?_ _) | (with_reducible refine Kd.C_drew ?_))); (case side2 => exact (Kd.R_reads' HO1366.out).2.1); (case side3 => repeat (first | exact (Kd.R_reads' HO1357.out).2.2 | (with_reducible refine Kd.C_alloc ?_ _) | (with_reducible refine Kd.C_drewN ?_ _) | (with_reducible refine Kd.C_drew ?_))); (case side4 => exact (Kd.R_reads' HO1357.out).2.1); rintro e w29 ⟨rfl, hb⟩; refine ⟨_, rfl, ?_⟩; have n0_ := Aside0.mk (Kd.R_below (by (with_reducible repeat (first | apply Kd.R_alloc | apply Kd.R_drewN | apply Kd.R_drew)); exact HO1357.out) hb); have n1_ := Aside0.mk (Kd.R_below (by (with_reducible repeat (first | apply Kd.R_alloc | apply Kd.R_drewN | apply Kd.R_drew)); exact HO1366.out) hb); have n2_ := Aside0.mk (blk_below (bkA BK1348) hb); have n3_ := Aside0.mk (blk_below (bkA BK1349) hb); have n4_ := Aside0.mk (below_step blA hb); clear HO1357; clear HO1366; clear BK1348; clear BK1349; clear HB; have HO1357 := n0_; have HO1366 := n1_; have BK1348 := n2_; have BK1349 := n3_; have HB := n4_; clear n0_ n1_ n2_ n3_ n4_; (try clear hb); (try clear hb2); (try clear hk); (try clear hi)))
      go_meet
      case rel => exact ⟨_, (true), (by first | rfl | (simp; done) | (simp [*]; done)), H', ⟨by first | omega | exact Nat.le_refl _⟩, ⟨by (with_reducible repeat (first | apply Kd.R_alloc | apply Kd.R_drewN | apply Kd.R_drew)); exact Kd.R_mono HO1357.out (fun _ hk => hk.2)⟩, ⟨by (with_reducible repeat (first | apply Kd.R_alloc | apply Kd.R_drewN | apply Kd.R_drew)); exact Kd.R_mono HO1366.out (fun _ hk => hk.2)⟩, ⟨bkA BK1348⟩, ⟨bkA BK1349⟩, ⟨blA⟩⟩
  case rest =>
    clear HC11
    try clear c1
    try clear c2
    try clear p2
    try clear c4
    try clear c5
    try clear c14
    try clear c16
    try clear c20
    try clear c23
    obtain ⟨kq, x45_10, rfl, HA, HJ10, HO_9, HO_11, BK1348, BK1349, HB⟩ := hcut
    cases kq with
    | zero => exact absurd HA.out (by simp [laws_FnExactRayOf.j0])
    | succ kj10 =>
      have H := HA.out
      clear HA
      simp only [laws_FnExactRayOf.j0] at H
      by_cases c30 : x45_10 = true
      · subst c30
        have H1 : (none) = some r := by rw [if_pos rfl] at H; exact H
        clear H
        have H := H1
        clear H1
        exact absurd H (by simp)
      · replace c30 := Bool.eq_false_iff.mpr c30
        subst c30
        have H1 : ((laws_markBallS.f kj10 t1364 1).bind fun bt1369 => ((laws_heldBallS.f kj10 bt1369.2 1).bind fun t1371 => (if t1371 < 0 then (none) else (if t1371 = bt1369.1 then ((laws_toBall.f a1_0 a1_1 a1_2).bind fun bt1372 => ((laws_toEnd.f a2_0 a2_1).bind fun bt1375 => ((impl_RayOf.f kj10 a0 bt1372.1 bt1372.2.1 bt1372.2.2 bt1375.1 bt1375.2 a3).bind fun bt1377 => ((laws_eqBallS.f kj10 bt1377.1 t1355).bind fun t1381 => (if t1381 = true then (laws_FnExactRayOf.j1 kj10 bt1369.2 bt1369.1 (bt1377.2 != t1358)) else (laws_FnExactRayOf.j1 kj10 bt1369.2 bt1369.1 true)))))) else (none))))) = some r := by rw [if_neg (show ¬ (false = true) by decide)] at H; exact H
        clear H
        have H := H1
        clear H1
        replace H := Option.bind_eq_some_iff.mp H
        obtain ⟨⟨t1369, t1370⟩, A310, H⟩ := H
        replace H : ((laws_heldBallS.f kj10 t1370 1).bind fun t1371 => (if t1371 < 0 then (none) else (if t1371 = t1369 then ((laws_toBall.f a1_0 a1_1 a1_2).bind fun bt1372 => ((laws_toEnd.f a2_0 a2_1).bind fun bt1375 => ((impl_RayOf.f kj10 a0 bt1372.1 bt1372.2.1 bt1372.2.2 bt1375.1 bt1375.2 a3).bind fun bt1377 => ((laws_eqBallS.f kj10 bt1377.1 t1355).bind fun t1381 => (if t1381 = true then (laws_FnExactRayOf.j1 kj10 t1370 t1369 (bt1377.2 != t1358)) else (laws_FnExactRayOf.j1 kj10 t1370 t1369 true)))))) else (none)))) = some r := H
        have A31 := Aside0.mk A310
        clear A310
        replace H := Option.bind_eq_some_iff.mp H
        obtain ⟨t1371, A320, H⟩ := H
        replace H : (if t1371 < 0 then (none) else (if t1371 = t1369 then ((laws_toBall.f a1_0 a1_1 a1_2).bind fun bt1372 => ((laws_toEnd.f a2_0 a2_1).bind fun bt1375 => ((impl_RayOf.f kj10 a0 bt1372.1 bt1372.2.1 bt1372.2.2 bt1375.1 bt1375.2 a3).bind fun bt1377 => ((laws_eqBallS.f kj10 bt1377.1 t1355).bind fun t1381 => (if t1381 = true then (laws_FnExactRayOf.j1 kj10 t1370 t1369 (bt1377.2 != t1358)) else (laws_FnExactRayOf.j1 kj10 t1370 t1369 true)))))) else (none))) = some r := H
        have A32 := Aside0.mk A320
        clear A320
        by_cases c33 : t1371 < 0
        · rw [if_pos c33] at H
          exact absurd H (by simp)
        · rw [if_neg c33] at H
          have c33b0 : decide (t1371 < 0) = false := decide_eq_false c33
          clear c33
          by_cases c34 : t1371 = t1369
          · rw [if_pos c34] at H
            have c34b0 : (t1371 == t1369) = true := beq_iff_eq.mpr c34
            have c34b1 : (t1371 != t1369) = false := bne_eq_false_iff_eq.mpr c34
            clear c34
            replace H := Option.bind_eq_some_iff.mp H
            obtain ⟨⟨t1372, t1373, t1374⟩, A350, H⟩ := H
            replace H : ((laws_toEnd.f a2_0 a2_1).bind fun bt1375 => ((impl_RayOf.f kj10 a0 t1372 t1373 t1374 bt1375.1 bt1375.2 a3).bind fun bt1377 => ((laws_eqBallS.f kj10 bt1377.1 t1355).bind fun t1381 => (if t1381 = true then (laws_FnExactRayOf.j1 kj10 t1370 t1369 (bt1377.2 != t1358)) else (laws_FnExactRayOf.j1 kj10 t1370 t1369 true))))) = some r := H
            have A35 := Aside0.mk A350
            clear A350
            replace H := Option.bind_eq_some_iff.mp H
            obtain ⟨⟨t1375, t1376⟩, A360, H⟩ := H
            replace H : ((impl_RayOf.f kj10 a0 t1372 t1373 t1374 t1375 t1376 a3).bind fun bt1377 => ((laws_eqBallS.f kj10 bt1377.1 t1355).bind fun t1381 => (if t1381 = true then (laws_FnExactRayOf.j1 kj10 t1370 t1369 (bt1377.2 != t1358)) else (laws_FnExactRayOf.j1 kj10 t1370 t1369 true)))) = some r := H
            have A36 := Aside0.mk A360
            clear A360
            replace H := Option.bind_eq_some_iff.mp H
            obtain ⟨⟨t1377, t1380⟩, A370, H⟩ := H
            replace H : ((laws_eqBallS.f kj10 t1377 t1355).bind fun t1381 => (if t1381 = true then (laws_FnExactRayOf.j1 kj10 t1370 t1369 (t1380 != t1358)) else (laws_FnExactRayOf.j1 kj10 t1370 t1369 true))) = some r := H
            have A37 := Aside0.mk A370
            clear A370
            have HC38 := Aside0.mk H
            clear H
            obtain ⟨Ao39, co39, eo39⟩ := Kd.R_slice HO_11.out
            subst eo39
            try go_wp2_with (first | ((with_reducible refine gate_callee (f := 44) rfl ?_); refine goesL_ (some 48) rfl rfl Try.func44 (by kernel_rfl) rfl #[.slice Ao39 t1364.length co39, .int .i64 1] rfl (by (try simp only [List.map_toArray, List.map_cons, List.map_nil]); first | done | rfl | (simp only [List.length_drop, List.length_take]; rfl)) ?_; (with_reducible refine (laws_markBallS.calls kj10 (fun k_ => some k_ = (.slice Ao39 t1364.length co39 : Value).ownBlock) (.slice Ao39 t1364.length co39) t1364 1 t1369 t1370 w _ ?side1 ?side2 A31.out).mono ?_); (case side1 => repeat (first | (with_reducible first | exact HB.out | apply below_alloc | apply pw_below_drewN | apply below_drew1 | refine below_set ?_ GE1348.out | refine below_set ?_ GE1349.out) | exact HB.out)); (case side2 => exact Kd.R_tight rfl HO_11.out); rintro e w40 ⟨rfl, hy0, hb, hkp⟩; refine ⟨_, rfl, ?_⟩; have n0_ := Aside0.mk (Kd.R_mono (ok' := fun k_ => some k_ ≠ (.slice Ao39 t1364.length co39 : Value).ownBlock) (Kd.R_keptB (HO_9.out) hkp (fun k_ hk_ hs_ => (hk_) hs_)) (fun k_ hk_ => hk_.1)); have n1_ := Aside0.mk (Kd.R_reok rfl hy0 (fun k_ e_ => HO_11.out.1 k_ e_)); have n2_ := Aside0.mk (blk_kept (bkA BK1348) hkp (fun hs_ => (fun e_ => (Kd.R_ne HO_11.out BK1348.out (by decide)) e_) hs_)); have n3_ := Aside0.mk (blk_kept (bkA BK1349) hkp (fun hs_ => (fun e_ => (Kd.R_ne HO_11.out BK1349.out (by decide)) e_) hs_)); have n4_ := Aside0.mk (hb); clear HO_9; clear HO_11; clear BK1348; clear BK1349; clear HB; have HO_9 := n0_; have HO_11 := n1_; have BK1348 := n2_; have BK1349 := n3_; have HB := n4_; clear n0_ n1_ n2_ n3_ n4_; (try clear hb); (try clear hkp); (try clear hy0)) | ((with_reducible refine gate_callee (f := 45) rfl ?_); refine goesL_ (some 51) rfl rfl Try.func45 (by kernel_rfl) rfl #[.slice Ao39 t1370.length co39, .int .i64 1] rfl (by (try simp only [List.map_toArray, List.map_cons, List.map_nil]); first | done | (rw [show t1370.length = t1364.length from (Kd.R_reads' HO_11.out).1.symm] <;> rfl) | rfl | (simp only [List.length_drop, List.length_take]; rfl)) ?_; (with_reducible refine (laws_heldBallS.calls kj10 _ _ t1370 1 t1371 _ ?side1 ?side2 A32.out).mono ?_); (case side1 => repeat (first | exact (Kd.R_reads' HO_11.out).2.2 | (with_reducible refine Kd.C_alloc ?_ _) | (with_reducible refine Kd.C_drewN ?_ _) | (with_reducible refine Kd.C_drew ?_))); (case side2 => rw [show t1370.length = t1364.length from (Kd.R_reads' HO_11.out).1.symm]; exact (Kd.R_reads' HO_11.out).2.1); rintro e w' ⟨rfl, ⟨nd, rfl⟩⟩; refine ⟨_, rfl, ?_⟩))
            (try (rw [drewN_self w40]; generalize hq_ : World.drewN w40 _ = w40; have n0_ : Aside0 (Kd.R k34 34 w40 w.heap.size (fun k_ => some k_ ≠ (v1356 : Value).ownBlock) (.slice Ao39 t1364.length co39) t1370) := ⟨by rw [← hq_]; exact (by (with_reducible repeat (first | apply Kd.R_alloc | apply Kd.R_drewN | apply Kd.R_drew)); exact HO_11.out)⟩; have n1_ : Aside0 (Kd.R k34 34 w40 w.heap.size (fun k_ => some k_ ≠ (.slice Ao39 t1364.length co39 : Value).ownBlock) v1356 t1355) := ⟨by rw [← hq_]; exact (by (with_reducible repeat (first | apply Kd.R_alloc | apply Kd.R_drewN | apply Kd.R_drew)); exact HO_9.out)⟩; have n2_ : Aside0 (w40.heap[gb1348]? = some (.cells #[.int .i64 a1_0, .int .i64 a1_1, .int .i64 a1_2] 31 (0, 0))) := ⟨by rw [← hq_]; exact (bkA BK1348)⟩; have n3_ : Aside0 (w40.heap[gb1349]? = some (.cells #[.int .i64 a2_0, .int .i64 a2_1] 23 (0, 0))) := ⟨by rw [← hq_]; exact (bkA BK1349)⟩; have n4_ : Aside0 (Below w.heap.size w w40) := ⟨by rw [← hq_]; exact blA⟩; clear HO_11 HO_9 BK1348 BK1349 HB hq_; have HO_11 := n0_; have HO_9 := n1_; have BK1348 := n2_; have BK1349 := n3_; have HB := n4_; clear n0_ n1_ n2_ n3_ n4_))
            have n0_ := Aside0.mk (Kd.R_drew HO_9.out)
            have n1_ := Aside0.mk (Kd.R_drew HO_11.out)
            have n2_ := Aside0.mk (blk_drew BK1348.out)
            have n3_ := Aside0.mk (blk_drew BK1349.out)
            have n4_ := Aside0.mk (below_drew1 HB.out)
            clear HO_9
            clear HO_11
            clear BK1348
            clear BK1349
            clear HB
            have HO_9 := n0_
            have HO_11 := n1_
            have BK1348 := n2_
            have BK1349 := n3_
            have HB := n4_
            clear n0_ n1_ n2_ n3_ n4_
            refine start_ (n := 12) (S := fun w' => w'.cell? ⟨gb1348, 0, none⟩ = some (.int .i64 a1_0) ∧ w'.cell? ⟨gb1348, 1, none⟩ = some (.int .i64 a1_1) ∧ w'.cell? ⟨gb1348, 2, none⟩ = some (.int .i64 a1_2) ∧ w'.cell? ⟨gb1349, 0, none⟩ = some (.int .i64 a2_0) ∧ w'.cell? ⟨gb1349, 1, none⟩ = some (.int .i64 a2_1)) (ds := []) #[false, false, false, false, false, false, false, false, false, false, false, false] (by kernel_rfl) rfl rfl ⟨(blk_cell BK1348.out 0).trans rfl, (blk_cell BK1348.out 1).trans rfl, (blk_cell BK1348.out 2).trans rfl, (blk_cell BK1349.out 0).trans rfl, (blk_cell BK1349.out 1).trans rfl⟩ (fun hHeld => ?_); refine with_tabW laws_FnExactRayOf.tab13 laws_FnExactRayOf.bits13 (fun HT_ HW_ => ?_)
            generalize w40.drew = w41 at HO_9 HO_11 BK1348 BK1349 HB hHeld ⊢
            refine pure_ (i := 0) (N := some 58) (v := ?_) (a' := ?_) #[true, false, false, false, false, false, false, false, false, false, false, false] rfl rfl (any_of HT_.out (by kernel_rfl)) (fun _ _ _ h => h) (Or.inl ⟨by rfl, ?_⟩) ?_ ?_
            rotate_left
            · intro w'
              go_simp
              with_reducible rfl
            rotate_left
            · simp only [Act.put, List.setIfInBounds_toArray, List.set_cons_zero, List.set_cons_succ, i64_w, i32_w]
              rfl
            refine pure_ (i := 5) (N := some 63) (v := ?_) (a' := ?_) #[true, false, false, false, false, true, false, false, false, false, false, false] rfl rfl (any_of HT_.out (by kernel_rfl)) (fun _ _ _ h => h) (Or.inl ⟨by rfl, ?_⟩) ?_ ?_
            rotate_left
            · intro w'
              go_simp
              with_reducible rfl
            rotate_left
            · simp only [Act.put, List.setIfInBounds_toArray, List.set_cons_zero, List.set_cons_succ, i64_w, i32_w]
              rfl
            refine take_ (i := 1) (N := some 59) (v := ?_) (a' := ?_) #[true, true, false, false, false, true, false, false, false, false, false, false] rfl rfl (take_ofW HT_.out HW_.out (by kernel_rfl)) (fun _ _ _ h => h) (Or.inl ⟨by rfl, ?_⟩) hHeld ?_ ?_
            rotate_left
            · rintro w' ⟨s0, s1, s2, s3, s4⟩
              go_simp
              with_reducible rfl
            rotate_left
            · simp only [Act.put, List.setIfInBounds_toArray, List.set_cons_zero, List.set_cons_succ, i64_w, i32_w]
              rfl
            refine take_ (i := 3) (N := some 61) (v := ?_) (a' := ?_) #[true, true, false, true, false, true, false, false, false, false, false, false] rfl rfl (take_ofW HT_.out HW_.out (by kernel_rfl)) (fun _ _ _ h => h) (Or.inl ⟨by rfl, ?_⟩) hHeld ?_ ?_
            rotate_left
            · rintro w' ⟨s0, s1, s2, s3, s4⟩
              go_simp
              with_reducible rfl
            rotate_left
            · simp only [Act.put, List.setIfInBounds_toArray, List.set_cons_zero, List.set_cons_succ, i64_w, i32_w]
              rfl
            refine one_ (i := 2) (N := some 60) #[true, true, true, true, false, true, false, false, false, false, false, false] rfl rfl (one_of HT_.out (by kernel_rfl)) (by decide) (fun K hK => ?_)
            refine goes_ Try.func20 (by kernel_rfl) rfl #[.agg #[.int .i64 a1_0, .int .i64 a1_1, .int .i64 a1_2]] (by rfl) rfl rfl (by (try simp only [List.map_toArray, List.map_cons, List.map_nil]); first | done | rfl | (simp only [List.length_drop, List.length_take]; rfl)) ?_
            with_reducible refine (laws_toBall.calls a1_0 a1_1 a1_2 t1372 t1373 t1374 _ A35.out).mono ?_
            rintro e w42 ⟨rfl, hb⟩
            refine ⟨_, rfl, ?_⟩
            have n0_ := Aside0.mk (Kd.R_below (by (with_reducible repeat (first | apply Kd.R_alloc | apply Kd.R_drewN | apply Kd.R_drew)); exact HO_9.out) hb)
            have n1_ := Aside0.mk (Kd.R_below (by (with_reducible repeat (first | apply Kd.R_alloc | apply Kd.R_drewN | apply Kd.R_drew)); exact HO_11.out) hb)
            have n2_ := Aside0.mk (blk_below (bkA BK1348) hb)
            have n3_ := Aside0.mk (blk_below (bkA BK1349) hb)
            have n4_ := Aside0.mk (below_step blA hb)
            clear HO_9
            clear HO_11
            clear BK1348
            clear BK1349
            clear HB
            have HO_9 := n0_
            have HO_11 := n1_
            have BK1348 := n2_
            have BK1349 := n3_
            have HB := n4_
            clear n0_ n1_ n2_ n3_ n4_
            (try clear hb)
            (try clear hb2)
            (try clear hk)
            (try clear hi)
            refine hK.out _ _ ⟨(blk_cell BK1348.out 0).trans rfl, (blk_cell BK1348.out 1).trans rfl, (blk_cell BK1348.out 2).trans rfl, (blk_cell BK1349.out 0).trans rfl, (blk_cell BK1349.out 1).trans rfl⟩ (fun hHeld => ?_)
            clear hK K
            refine norm_ (a' := ?_) ?_ ?_
            rotate_left
            · show Act.put _ (some 60) _ = _
              simp only [Act.put, List.setIfInBounds_toArray, List.set_cons_zero, List.set_cons_succ, i64_w, i32_w]
              rfl
            refine one_ (i := 4) (N := some 62) #[true, true, true, true, true, true, false, false, false, false, false, false] rfl rfl (one_of HT_.out (by kernel_rfl)) (by decide) (fun K hK => ?_)
            refine goes_ Try.func16 (by kernel_rfl) rfl #[.agg #[.int .i64 a2_0, .int .i64 a2_1]] (by rfl) rfl rfl (by (try simp only [List.map_toArray, List.map_cons, List.map_nil]); first | done | rfl | (simp only [List.length_drop, List.length_take]; rfl)) ?_
            with_reducible refine (laws_toEnd.calls a2_0 a2_1 t1375 t1376 _ A36.out).mono ?_
            rintro e w43 ⟨rfl, hb⟩
            refine ⟨_, rfl, ?_⟩
            have n0_ := Aside0.mk (Kd.R_below (by (with_reducible repeat (first | apply Kd.R_alloc | apply Kd.R_drewN | apply Kd.R_drew)); exact HO_9.out) hb)
            have n1_ := Aside0.mk (Kd.R_below (by (with_reducible repeat (first | apply Kd.R_alloc | apply Kd.R_drewN | apply Kd.R_drew)); exact HO_11.out) hb)
            have n2_ := Aside0.mk (blk_below (bkA BK1348) hb)
            have n3_ := Aside0.mk (blk_below (bkA BK1349) hb)
            have n4_ := Aside0.mk (below_step blA hb)
            clear HO_9
            clear HO_11
            clear BK1348
            clear BK1349
            clear HB
            have HO_9 := n0_
            have HO_11 := n1_
            have BK1348 := n2_
            have BK1349 := n3_
            have HB := n4_
            clear n0_ n1_ n2_ n3_ n4_
            (try clear hb)
            (try clear hb2)
            (try clear hk)
            (try clear hi)
            refine hK.out _ _ ⟨(blk_cell BK1348.out 0).trans rfl, (blk_cell BK1348.out 1).trans rfl, (blk_cell BK1348.out 2).trans rfl, (blk_cell BK1349.out 0).trans rfl, (blk_cell BK1349.out 1).trans rfl⟩ (fun hHeld => ?_)
            clear hK K
            refine norm_ (a' := ?_) ?_ ?_
            rotate_left
            · show Act.put _ (some 62) _ = _
              simp only [Act.put, List.setIfInBounds_toArray, List.set_cons_zero, List.set_cons_succ, i64_w, i32_w]
              rfl
            refine one_ (i := 6) (N := some 64) #[true, true, true, true, true, true, true, false, false, false, false, false] rfl rfl (one_of HT_.out (by kernel_rfl)) (by decide) (fun K hK => ?_)
            refine goes_ Try.func51 (by kernel_rfl) rfl #[.int .i64 a0, .agg #[.int .i64 t1372, .int .i64 t1373, .int .i64 t1374], .agg #[.int .i64 t1375, .int .i64 t1376], .int .i64 a3] (by rfl) rfl rfl (by (try simp only [List.map_toArray, List.map_cons, List.map_nil]); first | done | rfl | (simp only [List.length_drop, List.length_take]; rfl)) ?_
            with_reducible refine (impl_RayOf.calls kj10 a0 t1372 t1373 t1374 t1375 t1376 a3 t1377 t1380 _ A37.out).mono ?_
            rintro e w44 ⟨v1378, rfl, ho0, hb⟩
            refine ⟨_, rfl, ?_⟩
            have n0_ := Aside0.mk (Kd.R_elder' (by (with_reducible repeat (first | apply Kd.R_alloc | apply Kd.R_drewN | apply Kd.R_drew)); exact HO_9.out) (Kd.R_base ho0) hb)
            have n1_ := Aside0.mk (Kd.R_elder' (by (with_reducible repeat (first | apply Kd.R_alloc | apply Kd.R_drewN | apply Kd.R_drew)); exact HO_11.out) (Kd.R_base ho0) hb)
            have n2_ := Aside0.mk (Kd.R_lower (Kd.R_new' (Kd.R_new' ho0 (Kd.R_lt (by (with_reducible repeat (first | apply Kd.R_alloc | apply Kd.R_drewN | apply Kd.R_drew)); exact HO_9.out))) (Kd.R_lt (by (with_reducible repeat (first | apply Kd.R_alloc | apply Kd.R_drewN | apply Kd.R_drew)); exact HO_11.out))) (below_size blA))
            have n3_ := Aside0.mk (blk_below (bkA BK1348) hb)
            have n4_ := Aside0.mk (blk_below (bkA BK1349) hb)
            have n5_ := Aside0.mk (below_step blA hb)
            clear HO_9
            clear HO_11
            clear BK1348
            clear BK1349
            clear HB
            have HO_9 := n0_
            have HO_11 := n1_
            have HO1379 := n2_
            have BK1348 := n3_
            have BK1349 := n4_
            have HB := n5_
            clear n0_ n1_ n2_ n3_ n4_ n5_
            (try clear hb)
            (try clear hb2)
            (try clear hk)
            (try clear hi)
            (try clear ho0)
            refine hK.out _ _ ⟨(blk_cell BK1348.out 0).trans rfl, (blk_cell BK1348.out 1).trans rfl, (blk_cell BK1348.out 2).trans rfl, (blk_cell BK1349.out 0).trans rfl, (blk_cell BK1349.out 1).trans rfl⟩ (fun hHeld => ?_)
            clear hK K
            refine norm_ (a' := ?_) ?_ ?_
            rotate_left
            · show Act.put _ (some 64) _ = _
              simp only [Act.put, List.setIfInBounds_toArray, List.set_cons_zero, List.set_cons_succ, i64_w, i32_w]
              rfl
            refine pure_ (i := 7) (N := some 57) (v := ?_) (a' := ?_) #[true, true, true, true, true, true, true, true, false, false, false, false] rfl rfl (any_of HT_.out (by kernel_rfl)) (fun _ _ _ h => h) (Or.inl ⟨by rfl, ?_⟩) ?_ ?_
            rotate_left
            · intro w'
              go_simp
              with_reducible rfl
            rotate_left
            · simp only [Act.put, List.setIfInBounds_toArray, List.set_cons_zero, List.set_cons_succ, i64_w, i32_w]
              rfl
            refine pure_ (i := 8) (N := some 65) (v := ?_) (a' := ?_) #[true, true, true, true, true, true, true, true, true, false, false, false] rfl rfl (any_of HT_.out (by kernel_rfl)) (fun _ _ _ h => h) (Or.inl ⟨by rfl, ?_⟩) ?_ ?_
            rotate_left
            · intro w'
              go_simp
              with_reducible rfl
            rotate_left
            · simp only [Act.put, List.setIfInBounds_toArray, List.set_cons_zero, List.set_cons_succ, i64_w, i32_w]
              rfl
            refine pure_ (i := 9) (N := some 66) (v := ?_) (a' := ?_) #[true, true, true, true, true, true, true, true, true, true, false, false] rfl rfl (any_of HT_.out (by kernel_rfl)) (fun _ _ _ h => h) (Or.inl ⟨by rfl, ?_⟩) ?_ ?_
            rotate_left
            · intro w'
              go_simp
              with_reducible rfl
            rotate_left
            · simp only [Act.put, List.setIfInBounds_toArray, List.set_cons_zero, List.set_cons_succ, i64_w, i32_w]
              rfl
            refine pure_ (i := 10) (N := some 15) (v := ?_) (a' := ?_) #[true, true, true, true, true, true, true, true, true, true, true, false] rfl rfl (any_of HT_.out (by kernel_rfl)) (fun _ _ _ h => h) (Or.inl ⟨by rfl, ?_⟩) ?_ ?_
            rotate_left
            · intro w'
              go_simp
              with_reducible rfl
            rotate_left
            · simp only [Act.put, List.setIfInBounds_toArray, List.set_cons_zero, List.set_cons_succ, i64_w, i32_w]
              rfl
            refine pure_ (i := 11) (N := some 16) (v := ?_) (a' := ?_) #[true, true, true, true, true, true, true, true, true, true, true, true] rfl rfl (any_of HT_.out (by kernel_rfl)) (fun _ _ _ h => h) (Or.inl ⟨by rfl, ?_⟩) ?_ ?_
            rotate_left
            · intro w'
              go_simp
              with_reducible rfl
            rotate_left
            · simp only [Act.put, List.setIfInBounds_toArray, List.set_cons_zero, List.set_cons_succ, i64_w, i32_w]
              rfl
            refine done_ (done_of HT_.out (by kernel_rfl)) ?_
            go_upto_region 14 with (fail)
            go_cut [75] (fun v75 wc => ∃ (kq : Nat) (x75_37 : Bool), v75 = .bool x75_37 ∧ Aside0 (laws_FnExactRayOf.j1 kq t1370 t1369 x75_37 = some r) ∧ Aside0 (kq ≤ kj10) ∧ Aside0 (Kd.R k34 34 wc w.heap.size (fun _ => True) (.slice Ao39 t1364.length co39) t1370) ∧ Aside0 (wc.heap[gb1348]? = some (.cells #[.int .i64 a1_0, .int .i64 a1_1, .int .i64 a1_2] 31 (0, 0))) ∧ Aside0 (wc.heap[gb1349]? = some (.cells #[.int .i64 a2_0, .int .i64 a2_1] 23 (0, 0))) ∧ Aside0 (Below w.heap.size w wc))
            case first =>
              have H := HC38.out
              clear HC38
              replace H := Option.bind_eq_some_iff.mp H
              obtain ⟨t1381, A450, H⟩ := H
              replace H : (if t1381 = true then (laws_FnExactRayOf.j1 kj10 t1370 t1369 (t1380 != t1358)) else (laws_FnExactRayOf.j1 kj10 t1370 t1369 true)) = some r := H
              have A45 := Aside0.mk A450
              clear A450
              by_cases c46 : t1381 = true
              · subst c46
                have H1 : (laws_FnExactRayOf.j1 kj10 t1370 t1369 (t1380 != t1358)) = some r := by rw [if_pos rfl] at H; exact H
                clear H
                have H := H1
                clear H1
                have H' := Aside0.mk H
                clear H
                obtain ⟨Ao47, co47, eo47⟩ := Kd.R_slice HO1379.out
                subst eo47
                obtain ⟨Ao48, co48, eo48⟩ := Kd.R_slice HO_9.out
                subst eo48
                go_wp2_with (first | ((with_reducible refine gate_callee (f := 43) rfl ?_); refine goesL_ (some 69) rfl rfl Try.func43 (by kernel_rfl) rfl #[.slice Ao47 t1377.length co47, .slice Ao48 t1355.length co48] rfl (by (try simp only [List.map_toArray, List.map_cons, List.map_nil]); first | done | rfl | (simp only [List.length_drop, List.length_take]; rfl)) ?_; (with_reducible refine (laws_eqBallS.calls kj10 _ _ t1377 _ _ t1355 true _ ?side1 ?side2 ?side3 ?side4 A45.out).mono ?_); (case side1 => repeat (first | exact (Kd.R_reads' HO1379.out).2.2 | (with_reducible refine Kd.C_alloc ?_ _) | (with_reducible refine Kd.C_drewN ?_ _) | (with_reducible refine Kd.C_drew ?_))); (case side2 => exact (Kd.R_reads' HO1379.out).2.1); (case side3 => repeat (first | exact (Kd.R_reads' HO_9.out).2.2 | (with_reducible refine Kd.C_alloc ?_ _) | (with_reducible refine Kd.C_drewN ?_ _) | (with_reducible refine Kd.C_drew ?_))); (case side4 => exact (Kd.R_reads' HO_9.out).2.1); rintro e w49 ⟨rfl, hb⟩; refine ⟨_, rfl, ?_⟩; have n0_ := Aside0.mk (Kd.R_below (by (with_reducible repeat (first | apply Kd.R_alloc | apply Kd.R_drewN | apply Kd.R_drew)); exact HO_9.out) hb); have n1_ := Aside0.mk (Kd.R_below (by (with_reducible repeat (first | apply Kd.R_alloc | apply Kd.R_drewN | apply Kd.R_drew)); exact HO_11.out) hb); have n2_ := Aside0.mk (Kd.R_below (by (with_reducible repeat (first | apply Kd.R_alloc | apply Kd.R_drewN | apply Kd.R_drew)); exact HO1379.out) hb); have n3_ := Aside0.mk (blk_below (bkA BK1348) hb); have n4_ := Aside0.mk (blk_below (bkA BK1349) hb); have n5_ := Aside0.mk (below_step blA hb); clear HO_9; clear HO_11; clear HO1379; clear BK1348; clear BK1349; clear HB; have HO_9 := n0_; have HO_11 := n1_; have HO1379 := n2_; have BK1348 := n3_; have BK1349 := n4_; have HB := n5_; clear n0_ n1_ n2_ n3_ n4_ n5_; (try clear hb); (try clear hb2); (try clear hk); (try clear hi)))
                go_meet
                case rel => exact ⟨_, ((t1380 != t1358)), (by first | rfl | (simp; done) | (simp [*]; done)), H', ⟨by have := HJ10.out; first | omega | exact Nat.le_refl _⟩, ⟨by (with_reducible repeat (first | apply Kd.R_alloc | apply Kd.R_drewN | apply Kd.R_drew)); exact Kd.R_mono HO_11.out (fun _ hk => trivial)⟩, ⟨bkA BK1348⟩, ⟨bkA BK1349⟩, ⟨blA⟩⟩
              · replace c46 := Bool.eq_false_iff.mpr c46
                subst c46
                have H1 : (laws_FnExactRayOf.j1 kj10 t1370 t1369 true) = some r := by rw [if_neg (show ¬ (false = true) by decide)] at H; exact H
                clear H
                have H := H1
                clear H1
                have H' := Aside0.mk H
                clear H
                obtain ⟨Ao50, co50, eo50⟩ := Kd.R_slice HO1379.out
                subst eo50
                obtain ⟨Ao51, co51, eo51⟩ := Kd.R_slice HO_9.out
                subst eo51
                go_wp2_with (first | ((with_reducible refine gate_callee (f := 43) rfl ?_); refine goesL_ (some 69) rfl rfl Try.func43 (by kernel_rfl) rfl #[.slice Ao50 t1377.length co50, .slice Ao51 t1355.length co51] rfl (by (try simp only [List.map_toArray, List.map_cons, List.map_nil]); first | done | rfl | (simp only [List.length_drop, List.length_take]; rfl)) ?_; (with_reducible refine (laws_eqBallS.calls kj10 _ _ t1377 _ _ t1355 false _ ?side1 ?side2 ?side3 ?side4 A45.out).mono ?_); (case side1 => repeat (first | exact (Kd.R_reads' HO1379.out).2.2 | (with_reducible refine Kd.C_alloc ?_ _) | (with_reducible refine Kd.C_drewN ?_ _) | (with_reducible refine Kd.C_drew ?_))); (case side2 => exact (Kd.R_reads' HO1379.out).2.1); (case side3 => repeat (first | exact (Kd.R_reads' HO_9.out).2.2 | (with_reducible refine Kd.C_alloc ?_ _) | (with_reducible refine Kd.C_drewN ?_ _) | (with_reducible refine Kd.C_drew ?_))); (case side4 => exact (Kd.R_reads' HO_9.out).2.1); rintro e w52 ⟨rfl, hb⟩; refine ⟨_, rfl, ?_⟩; have n0_ := Aside0.mk (Kd.R_below (by (with_reducible repeat (first | apply Kd.R_alloc | apply Kd.R_drewN | apply Kd.R_drew)); exact HO_9.out) hb); have n1_ := Aside0.mk (Kd.R_below (by (with_reducible repeat (first | apply Kd.R_alloc | apply Kd.R_drewN | apply Kd.R_drew)); exact HO_11.out) hb); have n2_ := Aside0.mk (Kd.R_below (by (with_reducible repeat (first | apply Kd.R_alloc | apply Kd.R_drewN | apply Kd.R_drew)); exact HO1379.out) hb); have n3_ := Aside0.mk (blk_below (bkA BK1348) hb); have n4_ := Aside0.mk (blk_below (bkA BK1349) hb); have n5_ := Aside0.mk (below_step blA hb); clear HO_9; clear HO_11; clear HO1379; clear BK1348; clear BK1349; clear HB; have HO_9 := n0_; have HO_11 := n1_; have HO1379 := n2_; have BK1348 := n3_; have BK1349 := n4_; have HB := n5_; clear n0_ n1_ n2_ n3_ n4_ n5_; (try clear hb); (try clear hb2); (try clear hk); (try clear hi)))
                go_meet
                case rel => exact ⟨_, (true), (by first | rfl | (simp; done) | (simp [*]; done)), H', ⟨by have := HJ10.out; first | omega | exact Nat.le_refl _⟩, ⟨by (with_reducible repeat (first | apply Kd.R_alloc | apply Kd.R_drewN | apply Kd.R_drew)); exact Kd.R_mono HO_11.out (fun _ hk => trivial)⟩, ⟨bkA BK1348⟩, ⟨bkA BK1349⟩, ⟨blA⟩⟩
            case rest =>
              clear HC38
              try clear c1
              try clear c2
              try clear p2
              try clear c3
              try clear c4
              try clear c5
              try clear c14
              try clear c16
              try clear c20
              try clear c23
              try clear c30
              try clear c33
              try clear c33b0
              try clear c34
              try clear c34b0
              try clear c34b1
              try clear c43
              try clear c44
              try clear c45
              try clear c46
              try clear c50
              try clear c51
              try clear p2
              obtain ⟨kq, x75_37, rfl, HA, HJ37, HO_11, BK1348, BK1349, HB⟩ := hcut
              have hl11_37 := (Kd.R_reads' HO_11.out).1
              rw [hl11_37] at HO_11
              (try simp only [hl11_37])
              (try simp only [hl11_37] at BK1348)
              (try simp only [hl11_37] at BK1349)
              cases kq with
              | zero => exact absurd HA.out (by simp [laws_FnExactRayOf.j1])
              | succ kj37 =>
                have H := HA.out
                clear HA
                simp only [laws_FnExactRayOf.j1] at H
                by_cases c53 : x75_37 = true
                · subst c53
                  have H1 : (none) = some r := by rw [if_pos rfl] at H; exact H
                  clear H
                  have H := H1
                  clear H1
                  exact absurd H (by simp)
                · replace c53 := Bool.eq_false_iff.mpr c53
                  subst c53
                  have H1 : ((laws_heldBallS.f kj37 t1370 1).bind fun t1382 => (if t1382 < 0 then (none) else (if t1382 = t1369 then (some true) else (none)))) = some r := by rw [if_neg (show ¬ (false = true) by decide)] at H; exact H
                  clear H
                  have H := H1
                  clear H1
                  replace H := Option.bind_eq_some_iff.mp H
                  obtain ⟨t1382, A540, H⟩ := H
                  replace H : (if t1382 < 0 then (none) else (if t1382 = t1369 then (some true) else (none))) = some r := H
                  have A54 := Aside0.mk A540
                  clear A540
                  by_cases c55 : t1382 < 0
                  · rw [if_pos c55] at H
                    exact absurd H (by simp)
                  · rw [if_neg c55] at H
                    have c55b0 : decide (t1382 < 0) = false := decide_eq_false c55
                    clear c55
                    by_cases c56 : t1382 = t1369
                    · rw [if_pos c56] at H
                      have c56b0 : (t1382 == t1369) = true := beq_iff_eq.mpr c56
                      have c56b1 : (t1382 != t1369) = false := bne_eq_false_iff_eq.mpr c56
                      clear c56
                      obtain rfl := Option.some.inj H
                      go_wp2_with (first | ((with_reducible refine gate_callee (f := 45) rfl ?_); refine goesL_ (some 78) rfl rfl Try.func45 (by kernel_rfl) rfl #[.slice Ao39 t1370.length co39, .int .i64 1] rfl (by (try simp only [List.map_toArray, List.map_cons, List.map_nil]); first | done | rfl | (simp only [List.length_drop, List.length_take]; rfl)) ?_; (with_reducible refine (laws_heldBallS.calls kj37 _ _ t1370 1 t1382 _ ?side1 ?side2 A54.out).mono ?_); (case side1 => repeat (first | exact (Kd.R_reads' HO_11.out).2.2 | (with_reducible refine Kd.C_alloc ?_ _) | (with_reducible refine Kd.C_drewN ?_ _) | (with_reducible refine Kd.C_drew ?_))); (case side2 => exact (Kd.R_reads' HO_11.out).2.1); rintro e w' ⟨rfl, ⟨nd, rfl⟩⟩; refine ⟨_, rfl, ?_⟩))
                      go_ret
                      exact ⟨by first | rfl | (simp [errW_none, errW_some] <;> rfl) | (simp [*, errW_none, errW_some] <;> rfl), blA⟩
                    · rw [if_neg c56] at H
                      exact absurd H (by simp)
          · rw [if_neg c34] at H
            exact absurd H (by simp)
end Go.Proofs.Ytfkglijnbgijbaa.PAll
