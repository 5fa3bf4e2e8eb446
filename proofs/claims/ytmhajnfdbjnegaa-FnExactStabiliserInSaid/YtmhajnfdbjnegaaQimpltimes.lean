-- turned for this claim out of the kit's print: the same functions, packed anew
import Derived.Test.YtmhajnfdbjnegaaQx
import Derived.Test.YtmhajnfdbjnegaaQimplmark
import Derived.Test.YtmhajnfdbjnegaaQimplofMark
import Derived.Test.YtmhajnfdbjnegaaQspecl01Code
namespace Go.Proofs.Ytmhajnfdbjnegaa.PAll
open Go.RowKit Go.Proofs.YtmhajnfdbjnegaaW.PrintWords Go.Proofs.YtmhajnfdbjnegaaW.PrintLast Go.Proofs.YtmhajnfdbjnegaaW.PrintMore
attribute [local go_sem] Go.Proofs.Ytmhajnfdbjnegaa.Aux.setCell_drewN Go.Proofs.Ytmhajnfdbjnegaa.Aux.isSome_setCell max2_int min2_int max_two min_two max_three min_three max_four min_four   -- for this text's walks alone
set_option linter.unusedVariables false
set_option linter.unusedSimpArgs false
/-! ### spec_l04Move: function 77 -/
mutual
def spec_l04Move.j0 : Nat → Int → Int → Bool → Int → Int → Int → Int → Int → Int → Int → Int → Int → Int → Int → Option (Int × Int × Int × Bool)
  | 0, _, _, _, _, _, _, _, _, _, _, _, _, _, _ => none
  | k + 1, x0, x8, x91, x597000, x597001, x597002, x597003, x598000, x598001, x598002, x603000, x603001, x604000, x604001 => if x91 = true then (spec_l04Move.j1 k x0 x8 x597000 x597001 x597002 x597003 x598000 x598001 x598002 x603000 x603001) else (spec_l04Move.j1 k x0 x8 x597000 x597001 x597002 x597003 x598000 x598001 x598002 x604000 x604001)
def spec_l04Move.j1 : Nat → Int → Int → Int → Int → Int → Int → Int → Int → Int → Int → Int → Option (Int × Int × Int × Bool)
  | 0, _, _, _, _, _, _, _, _, _, _, _ => none
  | k + 1, x0, x8, x597000, x597001, x597002, x597003, x598000, x598001, x598002, x604000, x604001 => (spec_l04Det.f x597000 x597001 x597002 x597003).bind fun t606 => ((spec_l01Val.f k x0 t606).bind fun t607 => ((spec_l01Val.f k x0 x604001).bind fun t608 => ((spec_l01Of.f k x0 x604000 x604001 (wrap64 ((wrap64 ((wrap64 (t607 + x598000)) + (wrap64 (2 * x8)))) - (wrap64 (2 * t608))))).bind fun bt609 => (some (bt609.1, bt609.2.1, bt609.2.2.1, bt609.2.2.2)))))
end
def spec_l04Move.f (k : Nat) (a0 : Int) (a1_0 : Int) (a1_1 : Int) (a1_2 : Int) (a1_3 : Int) (a2_0 : Int) (a2_1 : Int) (a2_2 : Int) : Option (Int × Int × Int × Bool) := (spec_l01Power.f k a0 (wrap64 (a2_0 + (mx a2_2 (wrap64 (-a2_0)))))).bind fun t599 => ((spec_l01Power.f k a0 (mx a2_2 (wrap64 (-a2_0)))).bind fun t600 => ((spec_l01Power.f k a0 (wrap64 ((mx a2_2 (wrap64 (-a2_0))) - a2_2))).bind fun t601 => (if (wrap64 ((wrap64 (a1_2 * (wrap64 (a2_1 * t601)))) + (wrap64 (a1_3 * t600)))) = 0 then (spec_l04Move.j0 k a0 (mx a2_2 (wrap64 (-a2_0))) true a1_0 a1_1 a1_2 a1_3 a2_0 a2_1 a2_2 (wrap64 (a1_0 * t599)) (wrap64 (a1_2 * t599)) (wrap64 ((wrap64 (a1_0 * (wrap64 (a2_1 * t601)))) + (wrap64 (a1_1 * t600)))) (wrap64 ((wrap64 (a1_2 * (wrap64 (a2_1 * t601)))) + (wrap64 (a1_3 * t600))))) else (if (wrap64 (a1_2 * t599)) = 0 then (spec_l04Move.j0 k a0 (mx a2_2 (wrap64 (-a2_0))) false a1_0 a1_1 a1_2 a1_3 a2_0 a2_1 a2_2 (wrap64 (a1_0 * t599)) (wrap64 (a1_2 * t599)) (wrap64 ((wrap64 (a1_0 * (wrap64 (a2_1 * t601)))) + (wrap64 (a1_1 * t600)))) (wrap64 ((wrap64 (a1_2 * (wrap64 (a2_1 * t601)))) + (wrap64 (a1_3 * t600))))) else ((spec_l01Val.f k a0 (wrap64 ((wrap64 (a1_2 * (wrap64 (a2_1 * t601)))) + (wrap64 (a1_3 * t600))))).bind fun t604 => ((spec_l01Val.f k a0 (wrap64 (a1_2 * t599))).bind fun t605 => (spec_l04Move.j0 k a0 (mx a2_2 (wrap64 (-a2_0))) (decide (t604 > t605)) a1_0 a1_1 a1_2 a1_3 a2_0 a2_1 a2_2 (wrap64 (a1_0 * t599)) (wrap64 (a1_2 * t599)) (wrap64 ((wrap64 (a1_0 * (wrap64 (a2_1 * t601)))) + (wrap64 (a1_1 * t600)))) (wrap64 ((wrap64 (a1_2 * (wrap64 (a2_1 * t601)))) + (wrap64 (a1_3 * t600)))))))))))
theorem spec_l04Move.mono_l : ∀ k, (∀ y0 y1 y2 y3 y4 y5 y6 y7 y8 y9 y10 y11 y12 y13, LeO (spec_l04Move.j0 k y0 y1 y2 y3 y4 y5 y6 y7 y8 y9 y10 y11 y12 y13) (spec_l04Move.j0 (k + 1) y0 y1 y2 y3 y4 y5 y6 y7 y8 y9 y10 y11 y12 y13)) ∧ (∀ y0 y1 y2 y3 y4 y5 y6 y7 y8 y9 y10, LeO (spec_l04Move.j1 k y0 y1 y2 y3 y4 y5 y6 y7 y8 y9 y10) (spec_l04Move.j1 (k + 1) y0 y1 y2 y3 y4 y5 y6 y7 y8 y9 y10))
  | 0 => ⟨fun _ _ _ _ _ _ _ _ _ _ _ _ _ _ r h => by simp [spec_l04Move.j0] at h, fun _ _ _ _ _ _ _ _ _ _ _ r h => by simp [spec_l04Move.j1] at h⟩
  | k + 1 => by
    obtain ⟨ih0, ih1⟩ := spec_l04Move.mono_l k
    refine ⟨?_, ?_⟩
    · intro y0 y1 y2 y3 y4 y5 y6 y7 y8 y9 y10 y11 y12 y13
      unfold spec_l04Move.j0
      repeat' first
      | (with_reducible exact ih0 _ _ _ _ _ _ _ _ _ _ _ _ _ _)
      | (with_reducible exact ih1 _ _ _ _ _ _ _ _ _ _ _)
      | (with_reducible exact spec_l01Of.mono _ _ _ _ _)
      | (with_reducible exact spec_l01Power.mono _ _ _)
      | (with_reducible exact spec_l01Val.mono _ _ _)
      | (with_reducible exact LeO.refl _)
      | (with_reducible exact LeO.none _)
      | (with_reducible refine LeO.ite ?_ ?_)
      | (with_reducible refine LeO.bind ?_ (fun _ => ?_))
      | exact ih0 _ _ _ _ _ _ _ _ _ _ _ _ _ _
      | exact ih1 _ _ _ _ _ _ _ _ _ _ _
      | exact spec_l01Of.mono _ _ _ _ _
      | exact spec_l01Power.mono _ _ _
      | exact spec_l01Val.mono _ _ _
      | exact LeO.none _
      | refine LeO.ite ?_ ?_
      | refine LeO.bind ?_ (fun _ => ?_)
    · intro y0 y1 y2 y3 y4 y5 y6 y7 y8 y9 y10
      unfold spec_l04Move.j1
      repeat' first
      | (with_reducible exact ih0 _ _ _ _ _ _ _ _ _ _ _ _ _ _)
      | (with_reducible exact ih1 _ _ _ _ _ _ _ _ _ _ _)
      | (with_reducible exact spec_l01Of.mono _ _ _ _ _)
      | (with_reducible exact spec_l01Power.mono _ _ _)
      | (with_reducible exact spec_l01Val.mono _ _ _)
      | (with_reducible exact LeO.refl _)
      | (with_reducible exact LeO.none _)
      | (with_reducible refine LeO.ite ?_ ?_)
      | (with_reducible refine LeO.bind ?_ (fun _ => ?_))
      | exact ih0 _ _ _ _ _ _ _ _ _ _ _ _ _ _
      | exact ih1 _ _ _ _ _ _ _ _ _ _ _
      | exact spec_l01Of.mono _ _ _ _ _
      | exact spec_l01Power.mono _ _ _
      | exact spec_l01Val.mono _ _ _
      | exact LeO.none _
      | refine LeO.ite ?_ ?_
      | refine LeO.bind ?_ (fun _ => ?_)
theorem spec_l04Move.mono : ∀ a0 a1 a2 a3 a4 a5 a6 a7 k, LeO (spec_l04Move.f k a0 a1 a2 a3 a4 a5 a6 a7) (spec_l04Move.f (k + 1) a0 a1 a2 a3 a4 a5 a6 a7) := by
  intro a0 a1 a2 a3 a4 a5 a6 a7 k
  obtain ⟨ih0, ih1⟩ := spec_l04Move.mono_l k
  unfold spec_l04Move.f
  repeat' first
      | (with_reducible exact ih0 _ _ _ _ _ _ _ _ _ _ _ _ _ _)
      | (with_reducible exact ih1 _ _ _ _ _ _ _ _ _ _ _)
      | (with_reducible exact spec_l01Of.mono _ _ _ _ _)
      | (with_reducible exact spec_l01Power.mono _ _ _)
      | (with_reducible exact spec_l01Val.mono _ _ _)
      | (with_reducible exact LeO.refl _)
      | (with_reducible exact LeO.none _)
      | (with_reducible refine LeO.ite ?_ ?_)
      | (with_reducible refine LeO.bind ?_ (fun _ => ?_))
      | exact ih0 _ _ _ _ _ _ _ _ _ _ _ _ _ _
      | exact ih1 _ _ _ _ _ _ _ _ _ _ _
      | exact spec_l01Of.mono _ _ _ _ _
      | exact spec_l01Power.mono _ _ _
      | exact spec_l01Val.mono _ _ _
      | exact LeO.none _
      | refine LeO.ite ?_ ?_
      | refine LeO.bind ?_ (fun _ => ?_)
def spec_l04Move.T3 : Bool × List (List Nat × List Nat) := (true, [([], []), ([0], [0]), ([], []), ([], []), ([], []), ([4], [4]), ([3, 5], [3, 5]), ([2, 6], [2, 6]), ([1, 7], [1, 7]), ([8, 7, 0, 1, 2, 3, 4, 5, 6, 7, 8], [8])])
def spec_l04Move.B3 : List Nat := [0, 1, 0, 0, 0, 16, 56, 124, 255, 511]
theorem spec_l04Move.tab3 : rtab .any (opsOf Try.f77 3) = spec_l04Move.T3 := by kernel_rfl
theorem spec_l04Move.bits3 : waitsOk spec_l04Move.T3.2 spec_l04Move.B3 = true := by kernel_rfl
def spec_l04Move.T6 : Bool × List (List Nat × List Nat) := (true, [([], []), ([0], [0]), ([1], [1]), ([2], [2]), ([3], [3]), ([4, 3], [3, 4]), ([5, 3], [3, 5]), ([6, 3, 3], [3, 6]), ([7], [7]), ([7], [7]), ([9, 7], [7, 9]), ([8, 10, 7, 7], [7, 8, 10]), ([7], [7]), ([7], [7]), ([13, 7], [7, 13]), ([12, 14, 11, 7], [7, 12, 14]), ([11, 15, 7], [7, 11, 15]), ([7, 16, 3], [3, 7, 16]), ([3, 17], [3, 17])])
def spec_l04Move.B6 : List Nat := [0, 1, 3, 7, 15, 31, 63, 127, 255, 255, 767, 2047, 255, 255, 8447, 32767, 65535, 131071, 262143]
theorem spec_l04Move.tab6 : rtab .any (opsOf Try.f77 6) = spec_l04Move.T6 := by kernel_rfl
theorem spec_l04Move.bits6 : waitsOk spec_l04Move.T6.2 spec_l04Move.B6 = true := by kernel_rfl
def spec_l04Move.T8 : Bool × List (List Nat × List Nat) := (true, [([], []), ([], []), ([1], [1]), ([0, 2, 2], [0, 2]), ([], []), ([4], [4]), ([3, 5], [3, 5]), ([], []), ([7], [7]), ([6, 8], [6, 8]), ([], []), ([], []), ([11], [11]), ([10, 12, 3], [10, 12]), ([13], [13]), ([9, 14], [9, 14]), ([15, 13, 0, 1, 2, 3, 4, 5, 6, 7, 8, 9, 10, 11, 12, 13, 14, 15], [15])])
def spec_l04Move.B8 : List Nat := [0, 0, 2, 7, 0, 16, 63, 0, 128, 511, 0, 0, 2048, 7183, 15375, 32767, 65535]
theorem spec_l04Move.tab8 : rtab .any (opsOf Try.f77 8) = spec_l04Move.T8 := by kernel_rfl
theorem spec_l04Move.bits8 : waitsOk spec_l04Move.T8.2 spec_l04Move.B8 = true := by kernel_rfl
set_option maxHeartbeats 8000000 in
set_option maxRecDepth 100000 in
theorem spec_l04Move.calls (k : Nat) (a0 : Int) (a1_0 : Int) (a1_1 : Int) (a1_2 : Int) (a1_3 : Int) (a2_0 : Int) (a2_1 : Int) (a2_2 : Int) (r1 : Int) (r2 : Int) (r3 : Int) (r4 : Bool) (w : World) (h : spec_l04Move.f k a0 a1_0 a1_1 a1_2 a1_3 a2_0 a2_1 a2_2 = some (r1, r2, r3, r4)) :
    Calls Try.prog 77 #[.int .i64 a0, .agg #[.int .i64 a1_0, .int .i64 a1_1, .int .i64 a1_2, .int .i64 a1_3], .agg #[.int .i64 a2_0, .int .i64 a2_1, .int .i64 a2_2]] w fun e w' => e = .returned (.tuple #[.agg #[.int .i64 r1, .int .i64 r2, .int .i64 r3], .bool r4]) ∧ Below w.heap.size w w' := by
  have hu25 := Try.underlying25
  have hu55 := Try.underlying55
  have hu22 := Try.underlying22
  have HB := Aside0.mk (Below.refl w.heap.size w)
  have H : ((spec_l01Power.f k a0 (wrap64 (a2_0 + (mx a2_2 (wrap64 (-a2_0)))))).bind fun t599 => ((spec_l01Power.f k a0 (mx a2_2 (wrap64 (-a2_0)))).bind fun t600 => ((spec_l01Power.f k a0 (wrap64 ((mx a2_2 (wrap64 (-a2_0))) - a2_2))).bind fun t601 => (if (wrap64 ((wrap64 (a1_2 * (wrap64 (a2_1 * t601)))) + (wrap64 (a1_3 * t600)))) = 0 then (spec_l04Move.j0 k a0 (mx a2_2 (wrap64 (-a2_0))) true a1_0 a1_1 a1_2 a1_3 a2_0 a2_1 a2_2 (wrap64 (a1_0 * t599)) (wrap64 (a1_2 * t599)) (wrap64 ((wrap64 (a1_0 * (wrap64 (a2_1 * t601)))) + (wrap64 (a1_1 * t600)))) (wrap64 ((wrap64 (a1_2 * (wrap64 (a2_1 * t601)))) + (wrap64 (a1_3 * t600))))) else (if (wrap64 (a1_2 * t599)) = 0 then (spec_l04Move.j0 k a0 (mx a2_2 (wrap64 (-a2_0))) false a1_0 a1_1 a1_2 a1_3 a2_0 a2_1 a2_2 (wrap64 (a1_0 * t599)) (wrap64 (a1_2 * t599)) (wrap64 ((wrap64 (a1_0 * (wrap64 (a2_1 * t601)))) + (wrap64 (a1_1 * t600)))) (wrap64 ((wrap64 (a1_2 * (wrap64 (a2_1 * t601)))) + (wrap64 (a1_3 * t600))))) else ((spec_l01Val.f k a0 (wrap64 ((wrap64 (a1_2 * (wrap64 (a2_1 * t601)))) + (wrap64 (a1_3 * t600))))).bind fun t604 => ((spec_l01Val.f k a0 (wrap64 (a1_2 * t599))).bind fun t605 => (spec_l04Move.j0 k a0 (mx a2_2 (wrap64 (-a2_0))) (decide (t604 > t605)) a1_0 a1_1 a1_2 a1_3 a2_0 a2_1 a2_2 (wrap64 (a1_0 * t599)) (wrap64 (a1_2 * t599)) (wrap64 ((wrap64 (a1_0 * (wrap64 (a2_1 * t601)))) + (wrap64 (a1_1 * t600)))) (wrap64 ((wrap64 (a1_2 * (wrap64 (a2_1 * t601)))) + (wrap64 (a1_3 * t600)))))))))))) = some (r1, r2, r3, r4) := h
  clear h
  obtain ⟨ji4, hji4⟩ : ∃ j_ : Int, (mx a2_2 (wrap64 (-a2_0))) = j_ := ⟨_, rfl⟩
  replace H : ((spec_l01Power.f k a0 (wrap64 (a2_0 + (ji4)))).bind fun t599 => ((spec_l01Power.f k a0 (ji4)).bind fun t600 => ((spec_l01Power.f k a0 (wrap64 ((ji4) - a2_2))).bind fun t601 => (if (wrap64 ((wrap64 (a1_2 * (wrap64 (a2_1 * t601)))) + (wrap64 (a1_3 * t600)))) = 0 then (spec_l04Move.j0 k a0 ji4 true a1_0 a1_1 a1_2 a1_3 a2_0 a2_1 a2_2 (wrap64 (a1_0 * t599)) (wrap64 (a1_2 * t599)) (wrap64 ((wrap64 (a1_0 * (wrap64 (a2_1 * t601)))) + (wrap64 (a1_1 * t600)))) (wrap64 ((wrap64 (a1_2 * (wrap64 (a2_1 * t601)))) + (wrap64 (a1_3 * t600))))) else (if (wrap64 (a1_2 * t599)) = 0 then (spec_l04Move.j0 k a0 ji4 false a1_0 a1_1 a1_2 a1_3 a2_0 a2_1 a2_2 (wrap64 (a1_0 * t599)) (wrap64 (a1_2 * t599)) (wrap64 ((wrap64 (a1_0 * (wrap64 (a2_1 * t601)))) + (wrap64 (a1_1 * t600)))) (wrap64 ((wrap64 (a1_2 * (wrap64 (a2_1 * t601)))) + (wrap64 (a1_3 * t600))))) else ((spec_l01Val.f k a0 (wrap64 ((wrap64 (a1_2 * (wrap64 (a2_1 * t601)))) + (wrap64 (a1_3 * t600))))).bind fun t604 => ((spec_l01Val.f k a0 (wrap64 (a1_2 * t599))).bind fun t605 => (spec_l04Move.j0 k a0 ji4 (decide (t604 > t605)) a1_0 a1_1 a1_2 a1_3 a2_0 a2_1 a2_2 (wrap64 (a1_0 * t599)) (wrap64 (a1_2 * t599)) (wrap64 ((wrap64 (a1_0 * (wrap64 (a2_1 * t601)))) + (wrap64 (a1_1 * t600)))) (wrap64 ((wrap64 (a1_2 * (wrap64 (a2_1 * t601)))) + (wrap64 (a1_3 * t600)))))))))))) = some (r1, r2, r3, r4) := by first | (rw [hji4] at H; exact H) | (simp only [hji4] at H ⊢; exact H)
  have hji4_ : (if a2_2 < (wrap64 (-a2_0)) then (wrap64 (-a2_0)) else a2_2) = ji4 := hji4
  replace H := Option.bind_eq_some_iff.mp H
  obtain ⟨t599, A50, H⟩ := H
  replace H : ((spec_l01Power.f k a0 (ji4)).bind fun t600 => ((spec_l01Power.f k a0 (wrap64 ((ji4) - a2_2))).bind fun t601 => (if (wrap64 ((wrap64 (a1_2 * (wrap64 (a2_1 * t601)))) + (wrap64 (a1_3 * t600)))) = 0 then (spec_l04Move.j0 k a0 ji4 true a1_0 a1_1 a1_2 a1_3 a2_0 a2_1 a2_2 (wrap64 (a1_0 * t599)) (wrap64 (a1_2 * t599)) (wrap64 ((wrap64 (a1_0 * (wrap64 (a2_1 * t601)))) + (wrap64 (a1_1 * t600)))) (wrap64 ((wrap64 (a1_2 * (wrap64 (a2_1 * t601)))) + (wrap64 (a1_3 * t600))))) else (if (wrap64 (a1_2 * t599)) = 0 then (spec_l04Move.j0 k a0 ji4 false a1_0 a1_1 a1_2 a1_3 a2_0 a2_1 a2_2 (wrap64 (a1_0 * t599)) (wrap64 (a1_2 * t599)) (wrap64 ((wrap64 (a1_0 * (wrap64 (a2_1 * t601)))) + (wrap64 (a1_1 * t600)))) (wrap64 ((wrap64 (a1_2 * (wrap64 (a2_1 * t601)))) + (wrap64 (a1_3 * t600))))) else ((spec_l01Val.f k a0 (wrap64 ((wrap64 (a1_2 * (wrap64 (a2_1 * t601)))) + (wrap64 (a1_3 * t600))))).bind fun t604 => ((spec_l01Val.f k a0 (wrap64 (a1_2 * t599))).bind fun t605 => (spec_l04Move.j0 k a0 ji4 (decide (t604 > t605)) a1_0 a1_1 a1_2 a1_3 a2_0 a2_1 a2_2 (wrap64 (a1_0 * t599)) (wrap64 (a1_2 * t599)) (wrap64 ((wrap64 (a1_0 * (wrap64 (a2_1 * t601)))) + (wrap64 (a1_1 * t600)))) (wrap64 ((wrap64 (a1_2 * (wrap64 (a2_1 * t601)))) + (wrap64 (a1_3 * t600))))))))))) = some (r1, r2, r3, r4) := H
  have A5 := Aside0.mk A50
  clear A50
  replace H := Option.bind_eq_some_iff.mp H
  obtain ⟨t600, A60, H⟩ := H
  replace H : ((spec_l01Power.f k a0 (wrap64 ((ji4) - a2_2))).bind fun t601 => (if (wrap64 ((wrap64 (a1_2 * (wrap64 (a2_1 * t601)))) + (wrap64 (a1_3 * t600)))) = 0 then (spec_l04Move.j0 k a0 ji4 true a1_0 a1_1 a1_2 a1_3 a2_0 a2_1 a2_2 (wrap64 (a1_0 * t599)) (wrap64 (a1_2 * t599)) (wrap64 ((wrap64 (a1_0 * (wrap64 (a2_1 * t601)))) + (wrap64 (a1_1 * t600)))) (wrap64 ((wrap64 (a1_2 * (wrap64 (a2_1 * t601)))) + (wrap64 (a1_3 * t600))))) else (if (wrap64 (a1_2 * t599)) = 0 then (spec_l04Move.j0 k a0 ji4 false a1_0 a1_1 a1_2 a1_3 a2_0 a2_1 a2_2 (wrap64 (a1_0 * t599)) (wrap64 (a1_2 * t599)) (wrap64 ((wrap64 (a1_0 * (wrap64 (a2_1 * t601)))) + (wrap64 (a1_1 * t600)))) (wrap64 ((wrap64 (a1_2 * (wrap64 (a2_1 * t601)))) + (wrap64 (a1_3 * t600))))) else ((spec_l01Val.f k a0 (wrap64 ((wrap64 (a1_2 * (wrap64 (a2_1 * t601)))) + (wrap64 (a1_3 * t600))))).bind fun t604 => ((spec_l01Val.f k a0 (wrap64 (a1_2 * t599))).bind fun t605 => (spec_l04Move.j0 k a0 ji4 (decide (t604 > t605)) a1_0 a1_1 a1_2 a1_3 a2_0 a2_1 a2_2 (wrap64 (a1_0 * t599)) (wrap64 (a1_2 * t599)) (wrap64 ((wrap64 (a1_0 * (wrap64 (a2_1 * t601)))) + (wrap64 (a1_1 * t600)))) (wrap64 ((wrap64 (a1_2 * (wrap64 (a2_1 * t601)))) + (wrap64 (a1_3 * t600)))))))))) = some (r1, r2, r3, r4) := H
  have A6 := Aside0.mk A60
  clear A60
  replace H := Option.bind_eq_some_iff.mp H
  obtain ⟨t601, A70, H⟩ := H
  replace H : (if (wrap64 ((wrap64 (a1_2 * (wrap64 (a2_1 * t601)))) + (wrap64 (a1_3 * t600)))) = 0 then (spec_l04Move.j0 k a0 ji4 true a1_0 a1_1 a1_2 a1_3 a2_0 a2_1 a2_2 (wrap64 (a1_0 * t599)) (wrap64 (a1_2 * t599)) (wrap64 ((wrap64 (a1_0 * (wrap64 (a2_1 * t601)))) + (wrap64 (a1_1 * t600)))) (wrap64 ((wrap64 (a1_2 * (wrap64 (a2_1 * t601)))) + (wrap64 (a1_3 * t600))))) else (if (wrap64 (a1_2 * t599)) = 0 then (spec_l04Move.j0 k a0 ji4 false a1_0 a1_1 a1_2 a1_3 a2_0 a2_1 a2_2 (wrap64 (a1_0 * t599)) (wrap64 (a1_2 * t599)) (wrap64 ((wrap64 (a1_0 * (wrap64 (a2_1 * t601)))) + (wrap64 (a1_1 * t600)))) (wrap64 ((wrap64 (a1_2 * (wrap64 (a2_1 * t601)))) + (wrap64 (a1_3 * t600))))) else ((spec_l01Val.f k a0 (wrap64 ((wrap64 (a1_2 * (wrap64 (a2_1 * t601)))) + (wrap64 (a1_3 * t600))))).bind fun t604 => ((spec_l01Val.f k a0 (wrap64 (a1_2 * t599))).bind fun t605 => (spec_l04Move.j0 k a0 ji4 (decide (t604 > t605)) a1_0 a1_1 a1_2 a1_3 a2_0 a2_1 a2_2 (wrap64 (a1_0 * t599)) (wrap64 (a1_2 * t599)) (wrap64 ((wrap64 (a1_0 * (wrap64 (a2_1 * t601)))) + (wrap64 (a1_1 * t600)))) (wrap64 ((wrap64 (a1_2 * (wrap64 (a2_1 * t601)))) + (wrap64 (a1_3 * t600))))))))) = some (r1, r2, r3, r4) := H
  have A7 := Aside0.mk A70
  clear A70
  have HC8 := Aside0.mk H
  clear H
  go_enter Try.func77, Try.ntmps77
  try go_wp2_with (first | ((with_reducible refine gate_dst (N := 4) rfl ?_); refine box_event ?hg (N := 4) ?hd (cs := #[.int .i64 a1_0, .int .i64 a1_1, .int .i64 a1_2, .int .i64 a1_3]) (t := 25) ?hr ?_; (case hd => rfl); (case hg => rfl); (case hr => first | (go_simp; done) | (go_simp; rfl)); intro gb596 hg w9 hbox hb; have n0_ := Aside0.mk (below_step blA hb); have n1_ := Aside0.mk (hbox); have n2_ := Aside0.mk (szA hg blA); have n3_ := Aside0.mk (szA hg blA); clear HB; have HB := n0_; have BK596 := n1_; have GW596 := n2_; have GE596 := n3_; clear n0_ n1_ n2_ n3_; clear hb hbox hg) | ((with_reducible refine gate_dst (N := 5) rfl ?_); refine box_event ?hg (N := 5) ?hd (cs := #[.int .i64 a2_0, .int .i64 a2_1, .int .i64 a2_2]) (t := 55) ?hr ?_; (case hd => rfl); (case hg => rfl); (case hr => first | (go_simp; done) | (go_simp; rfl)); intro gb597 hg w10 hbox hb; have n0_ := Aside0.mk (blk_below (bkA BK596) hb); have n1_ := Aside0.mk (below_step blA hb); have n2_ := Aside0.mk (hbox); have n3_ := Aside0.mk (szA hg blA); have n4_ := Aside0.mk (szA hg blA); have n5_ := Aside0.mk (neA hg (bkA BK596)); have n6_ := Aside0.mk (neB hg (bkA BK596)); clear BK596; clear HB; have BK596 := n0_; have HB := n1_; have BK597 := n2_; have GW597 := n3_; have GE597 := n4_; have NB596_597 := n5_; have NB597_596 := n6_; clear n0_ n1_ n2_ n3_ n4_ n5_ n6_; clear hb hbox hg) | ((with_reducible refine gate_dst (N := 6) rfl ?_); refine box_event ?hg (N := 6) ?hd (cs := #[.int .i64 0, .int .i64 0, .int .i64 0]) (t := 55) ?hr ?_; (case hd => rfl); (case hg => rfl); (case hr => first | (go_simp; done) | (go_simp; rfl)); intro gb598 hg w11 hbox hb; have n0_ := Aside0.mk (blk_below (bkA BK596) hb); have n1_ := Aside0.mk (blk_below (bkA BK597) hb); have n2_ := Aside0.mk (below_step blA hb); have n3_ := Aside0.mk (hbox); have n4_ := Aside0.mk (szA hg blA); have n5_ := Aside0.mk (szA hg blA); have n6_ := Aside0.mk (neA hg (bkA BK596)); have n7_ := Aside0.mk (neB hg (bkA BK596)); have n8_ := Aside0.mk (neA hg (bkA BK597)); have n9_ := Aside0.mk (neB hg (bkA BK597)); clear BK596; clear BK597; clear HB; have BK596 := n0_; have BK597 := n1_; have HB := n2_; have BK598 := n3_; have GW598 := n4_; have GE598 := n5_; have NB596_598 := n6_; have NB598_596 := n7_; have NB597_598 := n8_; have NB598_597 := n9_; clear n0_ n1_ n2_ n3_ n4_ n5_ n6_ n7_ n8_ n9_; clear hb hbox hg; have hnb12 := NB597_596.out; have hnc12 := NB596_597.out; have hnb13 := NB597_598.out; have hnc13 := NB598_597.out; have hcz14_0 : w11.cell? ⟨gb597, 0, none⟩ = some (.int .i64 a2_0) := (blk_cell BK597.out 0).trans rfl; have hcz14_1 : w11.cell? ⟨gb597, 1, none⟩ = some (.int .i64 a2_1) := (blk_cell BK597.out 1).trans rfl; have hcz14_2 : w11.cell? ⟨gb597, 2, none⟩ = some (.int .i64 a2_2) := (blk_cell BK597.out 2).trans rfl; have hfz14_0 := blk_frozen BK597.out 0; have hfz14_1 := blk_frozen BK597.out 1; have hfz14_2 := blk_frozen BK597.out 2) | ((with_reducible refine gate_callee (f := 95) rfl ?_); refine goesL_ (some 26) rfl rfl Try.func95 (by kernel_rfl) rfl #[.int .i64 a0, .int .i64 (wrap64 (a2_0 + (ji4)))] rfl (by (try simp only [List.map_toArray, List.map_cons, List.map_nil]); first | done | (simp only [hji4]; rfl) | rfl | (simp only [List.length_drop, List.length_take]; rfl)) ?_; (with_reducible refine (spec_l01Power.calls k a0 (wrap64 (a2_0 + (ji4))) t599 _ A5.out).mono ?_); rintro e w' ⟨rfl, ⟨nd, rfl⟩⟩; refine ⟨_, rfl, ?_⟩; (try (rw [drewN_self w11]; generalize hq_ : World.drewN w11 _ = w11; have n0_ : Aside0 (w11.heap[gb596]? = some (.cells #[.int .i64 a1_0, .int .i64 a1_1, .int .i64 a1_2, .int .i64 a1_3] 25 (0, 0))) := ⟨by rw [← hq_]; exact (bkA BK596)⟩; have n1_ : Aside0 (w11.heap[gb597]? = some (.cells #[.int .i64 a2_0, .int .i64 a2_1, .int .i64 a2_2] 55 (0, 0))) := ⟨by rw [← hq_]; exact (bkA BK597)⟩; have n2_ : Aside0 (w11.heap[gb598]? = some (.cells #[.int .i64 0, .int .i64 0, .int .i64 0] 55 (0, 0))) := ⟨by rw [← hq_]; exact (bkA BK598)⟩; have n3_ : Aside0 (Below w.heap.size w w11) := ⟨by rw [← hq_]; exact blA⟩; clear BK596 BK597 BK598 HB hq_; have BK596 := n0_; have BK597 := n1_; have BK598 := n2_; have HB := n3_; clear n0_ n1_ n2_ n3_))) | ((with_reducible refine gate_callee (f := 95) rfl ?_); refine goesL_ (some 29) rfl rfl Try.func95 (by kernel_rfl) rfl #[.int .i64 a0, .int .i64 ji4] rfl (by (try simp only [List.map_toArray, List.map_cons, List.map_nil]); first | done | (simp only [hji4]; rfl) | rfl | (simp only [List.length_drop, List.length_take]; rfl)) ?_; (with_reducible refine (spec_l01Power.calls k a0 ji4 t600 _ A6.out).mono ?_); rintro e w' ⟨rfl, ⟨nd, rfl⟩⟩; refine ⟨_, rfl, ?_⟩; (try (rw [drewN_self w11]; generalize hq_ : World.drewN w11 _ = w11; have n0_ : Aside0 (w11.heap[gb596]? = some (.cells #[.int .i64 a1_0, .int .i64 a1_1, .int .i64 a1_2, .int .i64 a1_3] 25 (0, 0))) := ⟨by rw [← hq_]; exact (bkA BK596)⟩; have n1_ : Aside0 (w11.heap[gb597]? = some (.cells #[.int .i64 a2_0, .int .i64 a2_1, .int .i64 a2_2] 55 (0, 0))) := ⟨by rw [← hq_]; exact (bkA BK597)⟩; have n2_ : Aside0 (w11.heap[gb598]? = some (.cells #[.int .i64 0, .int .i64 0, .int .i64 0] 55 (0, 0))) := ⟨by rw [← hq_]; exact (bkA BK598)⟩; have n3_ : Aside0 (Below w.heap.size w w11) := ⟨by rw [← hq_]; exact blA⟩; clear BK596 BK597 BK598 HB hq_; have BK596 := n0_; have BK597 := n1_; have BK598 := n2_; have HB := n3_; clear n0_ n1_ n2_ n3_))))
  have n0_ := Aside0.mk (blk_drew BK596.out)
  have n1_ := Aside0.mk (blk_drew BK597.out)
  have n2_ := Aside0.mk (blk_drew BK598.out)
  have n3_ := Aside0.mk (below_drew1 HB.out)
  clear BK596
  clear BK597
  clear BK598
  clear HB
  have BK596 := n0_
  have BK597 := n1_
  have BK598 := n2_
  have HB := n3_
  clear n0_ n1_ n2_ n3_
  refine start_ (n := 10) (S := fun w' => w'.cell? ⟨gb597, 0, none⟩ = some (.int .i64 a2_0) ∧ w'.cell? ⟨gb597, 1, none⟩ = some (.int .i64 a2_1) ∧ w'.cell? ⟨gb597, 2, none⟩ = some (.int .i64 a2_2)) (ds := []) #[false, false, false, false, false, false, false, false, false, false] (by kernel_rfl) rfl rfl ⟨(blk_cell BK597.out 0).trans rfl, (blk_cell BK597.out 1).trans rfl, (blk_cell BK597.out 2).trans rfl⟩ (fun hHeld => ?_); refine with_tabW spec_l04Move.tab3 spec_l04Move.bits3 (fun HT_ HW_ => ?_)
  generalize w11.drew = w15 at BK596 BK597 BK598 HB hHeld ⊢
  refine pure_ (i := 0) (N := some 30) (v := ?_) (a' := ?_) #[true, false, false, false, false, false, false, false, false, false] rfl rfl (any_of HT_.out (by kernel_rfl)) (fun _ _ _ h => h) (Or.inl ⟨by rfl, ?_⟩) ?_ ?_
  rotate_left
  · intro w'
    go_simp
    with_reducible rfl
  rotate_left
  · simp only [Act.put, List.setIfInBounds_toArray, List.set_cons_zero, List.set_cons_succ, i64_w, i32_w]
    rfl
  refine pure_ (i := 2) (N := some 32) (v := ?_) (a' := ?_) #[true, false, true, false, false, false, false, false, false, false] rfl rfl (any_of HT_.out (by kernel_rfl)) (fun _ _ _ h => h) (Or.inl ⟨by rfl, ?_⟩) ?_ ?_
  rotate_left
  · intro w'
    go_simp
    with_reducible rfl
  rotate_left
  · simp only [Act.put, List.setIfInBounds_toArray, List.set_cons_zero, List.set_cons_succ, i64_w, i32_w]
    rfl
  refine pure_ (i := 3) (N := some 33) (v := ?_) (a' := ?_) #[true, false, true, true, false, false, false, false, false, false] rfl rfl (any_of HT_.out (by kernel_rfl)) (fun _ _ _ h => h) (Or.inl ⟨by rfl, ?_⟩) ?_ ?_
  rotate_left
  · intro w'
    go_simp
    with_reducible rfl
  rotate_left
  · simp only [Act.put, List.setIfInBounds_toArray, List.set_cons_zero, List.set_cons_succ, i64_w, i32_w]
    rfl
  refine pure_ (i := 4) (N := some 34) (v := ?_) (a' := ?_) #[true, false, true, true, true, false, false, false, false, false] rfl rfl (any_of HT_.out (by kernel_rfl)) (fun _ _ _ h => h) (Or.inl ⟨by rfl, ?_⟩) ?_ ?_
  rotate_left
  · intro w'
    go_simp
    with_reducible rfl
  rotate_left
  · simp only [Act.put, List.setIfInBounds_toArray, List.set_cons_zero, List.set_cons_succ, i64_w, i32_w]
    rfl
  refine take_ (i := 1) (N := some 31) (v := ?_) (a' := ?_) #[true, true, true, true, true, false, false, false, false, false] rfl rfl (take_ofW HT_.out HW_.out (by kernel_rfl)) (fun _ _ _ h => h) (Or.inl ⟨by rfl, ?_⟩) hHeld ?_ ?_
  rotate_left
  · rintro w' ⟨s0, s1, s2⟩
    go_simp
    with_reducible rfl
  rotate_left
  · simp only [Act.put, List.setIfInBounds_toArray, List.set_cons_zero, List.set_cons_succ, i64_w, i32_w]
    rfl
  refine take_ (i := 5) (N := some 35) (v := ?_) (a' := ?_) #[true, true, true, true, true, true, false, false, false, false] rfl rfl (take_ofW HT_.out HW_.out (by kernel_rfl)) (fun _ _ _ h => h) (Or.inl ⟨by rfl, ?_⟩) hHeld ?_ ?_
  rotate_left
  · rintro w' ⟨s0, s1, s2⟩
    go_simp
    with_reducible rfl
  rotate_left
  · simp only [Act.put, List.setIfInBounds_toArray, List.set_cons_zero, List.set_cons_succ, i64_w, i32_w]
    rfl
  refine pure_ (i := 6) (N := some 36) (v := ?_) (a' := ?_) #[true, true, true, true, true, true, true, false, false, false] rfl rfl (any_of HT_.out (by kernel_rfl)) (fun _ _ _ h => h) (Or.inl ⟨by rfl, ?_⟩) ?_ ?_
  rotate_left
  · intro w'
    go_simp
    with_reducible rfl
  rotate_left
  · simp only [Act.put, List.setIfInBounds_toArray, List.set_cons_zero, List.set_cons_succ, i64_w, i32_w]
    rfl
  refine one_ (i := 7) (N := some 37) #[true, true, true, true, true, true, true, true, false, false] rfl rfl (one_of HT_.out (by kernel_rfl)) (by decide) (fun K hK => ?_)
  refine goes_ Try.func95 (by kernel_rfl) rfl #[.int .i64 a0, .int .i64 (wrap64 ((ji4) - a2_2))] (by rfl) rfl rfl (by (try simp only [List.map_toArray, List.map_cons, List.map_nil]); first | done | (simp only [hji4]; rfl) | rfl | (simp only [List.length_drop, List.length_take]; rfl)) ?_
  with_reducible refine (spec_l01Power.calls k a0 (wrap64 ((ji4) - a2_2)) t601 _ A7.out).mono ?_
  rintro e w' ⟨rfl, ⟨nd, rfl⟩⟩
  refine ⟨_, rfl, ?_⟩
  refine hK.out _ _ ⟨(blk_cell BK597.out 0).trans rfl, (blk_cell BK597.out 1).trans rfl, (blk_cell BK597.out 2).trans rfl⟩ (fun hHeld => ?_)
  clear hK K
  refine norm_ (a' := ?_) ?_ ?_
  rotate_left
  · show Act.put _ (some 37) _ = _
    simp only [Act.put, List.setIfInBounds_toArray, List.set_cons_zero, List.set_cons_succ, i64_w, i32_w]
    rfl
  refine pure_ (i := 8) (N := some 38) (v := ?_) (a' := ?_) #[true, true, true, true, true, true, true, true, true, false] rfl rfl (any_of HT_.out (by kernel_rfl)) (fun _ _ _ h => h) (Or.inl ⟨by rfl, ?_⟩) ?_ ?_
  rotate_left
  · intro w'
    go_simp
    with_reducible rfl
  rotate_left
  · simp only [Act.put, List.setIfInBounds_toArray, List.set_cons_zero, List.set_cons_succ, i64_w, i32_w]
    rfl
  refine pure_ (i := 9) (N := some 11) (v := ?_) (a' := ?_) #[true, true, true, true, true, true, true, true, true, true] rfl rfl (any_of HT_.out (by kernel_rfl)) (fun _ _ _ h => h) (Or.inl ⟨by rfl, ?_⟩) ?_ ?_
  rotate_left
  · intro w'
    go_simp
    with_reducible rfl
  rotate_left
  · simp only [Act.put, List.setIfInBounds_toArray, List.set_cons_zero, List.set_cons_succ, i64_w, i32_w]
    rfl
  refine done_ (done_of HT_.out (by kernel_rfl)) ?_
  have hnb16 := NB596_598.out
  have hnc16 := NB598_596.out
  have hcz17_0 : w15.cell? ⟨gb596, 0, none⟩ = some (.int .i64 a1_0) := (blk_cell BK596.out 0).trans rfl
  have hcz17_1 : w15.cell? ⟨gb596, 1, none⟩ = some (.int .i64 a1_1) := (blk_cell BK596.out 1).trans rfl
  have hcz17_2 : w15.cell? ⟨gb596, 2, none⟩ = some (.int .i64 a1_2) := (blk_cell BK596.out 2).trans rfl
  have hcz17_3 : w15.cell? ⟨gb596, 3, none⟩ = some (.int .i64 a1_3) := (blk_cell BK596.out 3).trans rfl
  have hfz17_0 := blk_frozen BK596.out 0
  have hfz17_1 := blk_frozen BK596.out 1
  have hfz17_2 := blk_frozen BK596.out 2
  have hfz17_3 := blk_frozen BK596.out 3
  go_upto_region 6 with (first | ((with_reducible refine gate_dst (N := 12) rfl ?_); refine box_event ?hg (N := 12) ?hd (cs := #[.int .i64 0, .int .i64 0]) (t := 22) ?hr ?_; (case hd => rfl); (case hg => rfl); (case hr => first | (go_simp; done) | (go_simp; rfl)); intro gb602 hg w18 hbox hb; have n0_ := Aside0.mk (blk_below (bkA BK596) hb); have n1_ := Aside0.mk (blk_below (bkA BK597) hb); have n2_ := Aside0.mk (blk_below (bkA BK598) hb); have n3_ := Aside0.mk (below_step blA hb); have n4_ := Aside0.mk (hbox); have n5_ := Aside0.mk (szA hg blA); have n6_ := Aside0.mk (szA hg blA); have n7_ := Aside0.mk (neA hg (bkA BK596)); have n8_ := Aside0.mk (neB hg (bkA BK596)); have n9_ := Aside0.mk (neA hg (bkA BK597)); have n10_ := Aside0.mk (neB hg (bkA BK597)); have n11_ := Aside0.mk (neA hg (bkA BK598)); have n12_ := Aside0.mk (neB hg (bkA BK598)); clear BK596; clear BK597; clear BK598; clear HB; have BK596 := n0_; have BK597 := n1_; have BK598 := n2_; have HB := n3_; have BK602 := n4_; have GW602 := n5_; have GE602 := n6_; have NB596_602 := n7_; have NB602_596 := n8_; have NB597_602 := n9_; have NB602_597 := n10_; have NB598_602 := n11_; have NB602_598 := n12_; clear n0_ n1_ n2_ n3_ n4_ n5_ n6_ n7_ n8_ n9_ n10_ n11_ n12_; clear hb hbox hg; have hnb19 := NB602_596.out; have hnc19 := NB596_602.out; have hnb20 := NB602_597.out; have hnc20 := NB597_602.out; have hnb21 := NB602_598.out; have hnc21 := NB598_602.out; have hcz22_0 : w18.cell? ⟨gb602, 0, none⟩ = some (.int .i64 0) := (blk_cell BK602.out 0).trans rfl; have hcz22_1 : w18.cell? ⟨gb602, 1, none⟩ = some (.int .i64 0) := (blk_cell BK602.out 1).trans rfl; have hfz22_0 := blk_frozen BK602.out 0; have hfz22_1 := blk_frozen BK602.out 1; have hcz23_0 : w18.cell? ⟨gb596, 0, none⟩ = some (.int .i64 a1_0) := (blk_cell BK596.out 0).trans rfl; have hcz23_1 : w18.cell? ⟨gb596, 1, none⟩ = some (.int .i64 a1_1) := (blk_cell BK596.out 1).trans rfl; have hcz23_2 : w18.cell? ⟨gb596, 2, none⟩ = some (.int .i64 a1_2) := (blk_cell BK596.out 2).trans rfl; have hcz23_3 : w18.cell? ⟨gb596, 3, none⟩ = some (.int .i64 a1_3) := (blk_cell BK596.out 3).trans rfl; have hfz23_0 := blk_frozen BK596.out 0; have hfz23_1 := blk_frozen BK596.out 1; have hfz23_2 := blk_frozen BK596.out 2; have hfz23_3 := blk_frozen BK596.out 3) | ((with_reducible refine gate_dst (N := 13) rfl ?_); refine box_event ?hg (N := 13) ?hd (cs := #[.int .i64 0, .int .i64 0]) (t := 22) ?hr ?_; (case hd => rfl); (case hg => rfl); (case hr => first | (go_simp; done) | (go_simp; rfl)); intro gb603 hg w24 hbox hb; have n0_ := Aside0.mk (blk_below (g := gb596) (o := .cells #[.int .i64 a1_0, .int .i64 a1_1, .int .i64 a1_2, .int .i64 a1_3] 25 (0, 0)) (by (with_reducible repeat (first | refine blk_drewN ?_ _ | refine blk_drew ?_ | refine blk_alloc ?_ _)); refine blk_far ?_ NB596_602.out _; (with_reducible repeat (first | refine blk_drewN ?_ _ | refine blk_drew ?_ | refine blk_alloc ?_ _)); refine blk_far ?_ NB596_602.out _; (with_reducible repeat (first | refine blk_drewN ?_ _ | refine blk_drew ?_ | refine blk_alloc ?_ _)); exact BK596.out) hb); have n1_ := Aside0.mk (blk_below (g := gb597) (o := .cells #[.int .i64 a2_0, .int .i64 a2_1, .int .i64 a2_2] 55 (0, 0)) (by (with_reducible repeat (first | refine blk_drewN ?_ _ | refine blk_drew ?_ | refine blk_alloc ?_ _)); refine blk_far ?_ NB597_602.out _; (with_reducible repeat (first | refine blk_drewN ?_ _ | refine blk_drew ?_ | refine blk_alloc ?_ _)); refine blk_far ?_ NB597_602.out _; (with_reducible repeat (first | refine blk_drewN ?_ _ | refine blk_drew ?_ | refine blk_alloc ?_ _)); exact BK597.out) hb); have n2_ := Aside0.mk (blk_below (g := gb598) (o := .cells #[.int .i64 0, .int .i64 0, .int .i64 0] 55 (0, 0)) (by (with_reducible repeat (first | refine blk_drewN ?_ _ | refine blk_drew ?_ | refine blk_alloc ?_ _)); refine blk_far ?_ NB598_602.out _; (with_reducible repeat (first | refine blk_drewN ?_ _ | refine blk_drew ?_ | refine blk_alloc ?_ _)); refine blk_far ?_ NB598_602.out _; (with_reducible repeat (first | refine blk_drewN ?_ _ | refine blk_drew ?_ | refine blk_alloc ?_ _)); exact BK598.out) hb); have n3_ := Aside0.mk (blk_below (g := gb602) (o := .cells #[.int .i64 (wrap64 (a1_0 * t599)), .int .i64 (wrap64 (a1_2 * t599))] 22 (0, 0)) (by (with_reducible repeat (first | refine blk_drewN ?_ _ | refine blk_drew ?_ | refine blk_alloc ?_ _)); refine blk_put (cs := #[.int .i64 (wrap64 (a1_0 * t599)), .int .i64 0]) ?_ 1 _ rfl; (with_reducible repeat (first | refine blk_drewN ?_ _ | refine blk_drew ?_ | refine blk_alloc ?_ _)); refine blk_put (cs := #[.int .i64 0, .int .i64 0]) ?_ 0 _ rfl; (with_reducible repeat (first | refine blk_drewN ?_ _ | refine blk_drew ?_ | refine blk_alloc ?_ _)); exact BK602.out) hb); have n4_ := Aside0.mk (below_step blA hb); have n5_ := Aside0.mk (hbox); have n6_ := Aside0.mk (szA hg blA); have n7_ := Aside0.mk (szA hg blA); have n8_ := Aside0.mk ((by rw [hg]; exact Nat.ne_of_lt (blk_lt (g := gb596) (o := .cells #[.int .i64 a1_0, .int .i64 a1_1, .int .i64 a1_2, .int .i64 a1_3] 25 (0, 0)) (by (with_reducible repeat (first | refine blk_drewN ?_ _ | refine blk_drew ?_ | refine blk_alloc ?_ _)); refine blk_far ?_ NB596_602.out _; (with_reducible repeat (first | refine blk_drewN ?_ _ | refine blk_drew ?_ | refine blk_alloc ?_ _)); refine blk_far ?_ NB596_602.out _; (with_reducible repeat (first | refine blk_drewN ?_ _ | refine blk_drew ?_ | refine blk_alloc ?_ _)); exact BK596.out)) : gb596 ≠ gb603)); have n9_ := Aside0.mk ((by rw [hg]; exact Nat.ne_of_gt (blk_lt (g := gb596) (o := .cells #[.int .i64 a1_0, .int .i64 a1_1, .int .i64 a1_2, .int .i64 a1_3] 25 (0, 0)) (by (with_reducible repeat (first | refine blk_drewN ?_ _ | refine blk_drew ?_ | refine blk_alloc ?_ _)); refine blk_far ?_ NB596_602.out _; (with_reducible repeat (first | refine blk_drewN ?_ _ | refine blk_drew ?_ | refine blk_alloc ?_ _)); refine blk_far ?_ NB596_602.out _; (with_reducible repeat (first | refine blk_drewN ?_ _ | refine blk_drew ?_ | refine blk_alloc ?_ _)); exact BK596.out)) : gb603 ≠ gb596)); have n10_ := Aside0.mk ((by rw [hg]; exact Nat.ne_of_lt (blk_lt (g := gb597) (o := .cells #[.int .i64 a2_0, .int .i64 a2_1, .int .i64 a2_2] 55 (0, 0)) (by (with_reducible repeat (first | refine blk_drewN ?_ _ | refine blk_drew ?_ | refine blk_alloc ?_ _)); refine blk_far ?_ NB597_602.out _; (with_reducible repeat (first | refine blk_drewN ?_ _ | refine blk_drew ?_ | refine blk_alloc ?_ _)); refine blk_far ?_ NB597_602.out _; (with_reducible repeat (first | refine blk_drewN ?_ _ | refine blk_drew ?_ | refine blk_alloc ?_ _)); exact BK597.out)) : gb597 ≠ gb603)); have n11_ := Aside0.mk ((by rw [hg]; exact Nat.ne_of_gt (blk_lt (g := gb597) (o := .cells #[.int .i64 a2_0, .int .i64 a2_1, .int .i64 a2_2] 55 (0, 0)) (by (with_reducible repeat (first | refine blk_drewN ?_ _ | refine blk_drew ?_ | refine blk_alloc ?_ _)); refine blk_far ?_ NB597_602.out _; (with_reducible repeat (first | refine blk_drewN ?_ _ | refine blk_drew ?_ | refine blk_alloc ?_ _)); refine blk_far ?_ NB597_602.out _; (with_reducible repeat (first | refine blk_drewN ?_ _ | refine blk_drew ?_ | refine blk_alloc ?_ _)); exact BK597.out)) : gb603 ≠ gb597)); have n12_ := Aside0.mk ((by rw [hg]; exact Nat.ne_of_lt (blk_lt (g := gb598) (o := .cells #[.int .i64 0, .int .i64 0, .int .i64 0] 55 (0, 0)) (by (with_reducible repeat (first | refine blk_drewN ?_ _ | refine blk_drew ?_ | refine blk_alloc ?_ _)); refine blk_far ?_ NB598_602.out _; (with_reducible repeat (first | refine blk_drewN ?_ _ | refine blk_drew ?_ | refine blk_alloc ?_ _)); refine blk_far ?_ NB598_602.out _; (with_reducible repeat (first | refine blk_drewN ?_ _ | refine blk_drew ?_ | refine blk_alloc ?_ _)); exact BK598.out)) : gb598 ≠ gb603)); have n13_ := Aside0.mk ((by rw [hg]; exact Nat.ne_of_gt (blk_lt (g := gb598) (o := .cells #[.int .i64 0, .int .i64 0, .int .i64 0] 55 (0, 0)) (by (with_reducible repeat (first | refine blk_drewN ?_ _ | refine blk_drew ?_ | refine blk_alloc ?_ _)); refine blk_far ?_ NB598_602.out _; (with_reducible repeat (first | refine blk_drewN ?_ _ | refine blk_drew ?_ | refine blk_alloc ?_ _)); refine blk_far ?_ NB598_602.out _; (with_reducible repeat (first | refine blk_drewN ?_ _ | refine blk_drew ?_ | refine blk_alloc ?_ _)); exact BK598.out)) : gb603 ≠ gb598)); have n14_ := Aside0.mk ((by rw [hg]; exact Nat.ne_of_lt (blk_lt (g := gb602) (o := .cells #[.int .i64 (wrap64 (a1_0 * t599)), .int .i64 (wrap64 (a1_2 * t599))] 22 (0, 0)) (by (with_reducible repeat (first | refine blk_drewN ?_ _ | refine blk_drew ?_ | refine blk_alloc ?_ _)); refine blk_put (cs := #[.int .i64 (wrap64 (a1_0 * t599)), .int .i64 0]) ?_ 1 _ rfl; (with_reducible repeat (first | refine blk_drewN ?_ _ | refine blk_drew ?_ | refine blk_alloc ?_ _)); refine blk_put (cs := #[.int .i64 0, .int .i64 0]) ?_ 0 _ rfl; (with_reducible repeat (first | refine blk_drewN ?_ _ | refine blk_drew ?_ | refine blk_alloc ?_ _)); exact BK602.out)) : gb602 ≠ gb603)); have n15_ := Aside0.mk ((by rw [hg]; exact Nat.ne_of_gt (blk_lt (g := gb602) (o := .cells #[.int .i64 (wrap64 (a1_0 * t599)), .int .i64 (wrap64 (a1_2 * t599))] 22 (0, 0)) (by (with_reducible repeat (first | refine blk_drewN ?_ _ | refine blk_drew ?_ | refine blk_alloc ?_ _)); refine blk_put (cs := #[.int .i64 (wrap64 (a1_0 * t599)), .int .i64 0]) ?_ 1 _ rfl; (with_reducible repeat (first | refine blk_drewN ?_ _ | refine blk_drew ?_ | refine blk_alloc ?_ _)); refine blk_put (cs := #[.int .i64 0, .int .i64 0]) ?_ 0 _ rfl; (with_reducible repeat (first | refine blk_drewN ?_ _ | refine blk_drew ?_ | refine blk_alloc ?_ _)); exact BK602.out)) : gb603 ≠ gb602)); clear BK596; clear BK597; clear BK598; clear BK602; clear HB; have BK596 := n0_; have BK597 := n1_; have BK598 := n2_; have BK602 := n3_; have HB := n4_; have BK603 := n5_; have GW603 := n6_; have GE603 := n7_; have NB596_603 := n8_; have NB603_596 := n9_; have NB597_603 := n10_; have NB603_597 := n11_; have NB598_603 := n12_; have NB603_598 := n13_; have NB602_603 := n14_; have NB603_602 := n15_; clear n0_ n1_ n2_ n3_ n4_ n5_ n6_ n7_ n8_ n9_ n10_ n11_ n12_ n13_ n14_ n15_; clear hb hbox hg; have hnb25 := NB603_596.out; have hnc25 := NB596_603.out; have hnb26 := NB603_597.out; have hnc26 := NB597_603.out; have hnb27 := NB603_598.out; have hnc27 := NB598_603.out; have hnb28 := NB603_602.out; have hnc28 := NB602_603.out; have hcz29_0 : w24.cell? ⟨gb603, 0, none⟩ = some (.int .i64 0) := (blk_cell BK603.out 0).trans rfl; have hcz29_1 : w24.cell? ⟨gb603, 1, none⟩ = some (.int .i64 0) := (blk_cell BK603.out 1).trans rfl; have hfz29_0 := blk_frozen BK603.out 0; have hfz29_1 := blk_frozen BK603.out 1))
  (try simp only [Act.put, List.setIfInBounds_toArray, List.set_cons_zero, List.set_cons_succ])
  go_cut [91] (fun v91 wc => ∃ (kq : Nat) (x91_7 : Bool), v91 = .bool x91_7 ∧ Aside0 (spec_l04Move.j0 kq a0 ji4 x91_7 a1_0 a1_1 a1_2 a1_3 a2_0 a2_1 a2_2 (wrap64 (a1_0 * t599)) (wrap64 (a1_2 * t599)) (wrap64 ((wrap64 (a1_0 * (wrap64 (a2_1 * t601)))) + (wrap64 (a1_1 * t600)))) (wrap64 ((wrap64 (a1_2 * (wrap64 (a2_1 * t601)))) + (wrap64 (a1_3 * t600)))) = some (r1, r2, r3, r4)) ∧ Aside0 (kq ≤ k) ∧ Aside0 (wc.heap[gb596]? = some (.cells #[.int .i64 a1_0, .int .i64 a1_1, .int .i64 a1_2, .int .i64 a1_3] 25 (0, 0))) ∧ Aside0 (wc.heap[gb597]? = some (.cells #[.int .i64 a2_0, .int .i64 a2_1, .int .i64 a2_2] 55 (0, 0))) ∧ Aside0 (wc.heap[gb598]? = some (.cells #[.int .i64 0, .int .i64 0, .int .i64 0] 55 (0, 0))) ∧ Aside0 (wc.heap[gb602]? = some (.cells #[.int .i64 (wrap64 (a1_0 * t599)), .int .i64 (wrap64 (a1_2 * t599))] 22 (0, 0))) ∧ Aside0 (wc.heap[gb603]? = some (.cells #[.int .i64 (wrap64 ((wrap64 (a1_0 * (wrap64 (a2_1 * t601)))) + (wrap64 (a1_1 * t600)))), .int .i64 (wrap64 ((wrap64 (a1_2 * (wrap64 (a2_1 * t601)))) + (wrap64 (a1_3 * t600))))] 22 (0, 0))) ∧ Aside0 (Below w.heap.size w wc))
  case first =>
    have H := HC8.out
    clear HC8
    by_cases c30 : (wrap64 ((wrap64 (a1_2 * (wrap64 (a2_1 * t601)))) + (wrap64 (a1_3 * t600)))) = 0
    · rw [if_pos c30] at H
      have c30b0 : ((wrap64 ((wrap64 (a1_2 * (wrap64 (a2_1 * t601)))) + (wrap64 (a1_3 * t600)))) == 0) = true := beq_iff_eq.mpr c30
      have c30b1 : ((wrap64 ((wrap64 (a1_2 * (wrap64 (a2_1 * t601)))) + (wrap64 (a1_3 * t600)))) != 0) = false := bne_eq_false_iff_eq.mpr c30
      clear c30
      (first | rw [c30b0] | (simp only [i64_w, i32_w]; rw [c30b0]) | skip)
      have H' := Aside0.mk H
      clear H
      try go_wp2
      have n0_ : Aside0 (((w24.setCell ⟨gb603, 0, none⟩ (.int .i64 (wrap64 ((wrap64 (a1_0 * (wrap64 (a2_1 * t601)))) + (wrap64 (a1_1 * t600)))))).setCell ⟨gb603, 1, none⟩ (.int .i64 (wrap64 ((wrap64 (a1_2 * (wrap64 (a2_1 * t601)))) + (wrap64 (a1_3 * t600)))))).heap[gb596]? = some (.cells #[.int .i64 a1_0, .int .i64 a1_1, .int .i64 a1_2, .int .i64 a1_3] 25 (0, 0))) := ⟨by (with_reducible repeat (first | refine blk_drewN ?_ _ | refine blk_drew ?_ | refine blk_alloc ?_ _)); refine blk_far ?_ NB596_603.out _; (with_reducible repeat (first | refine blk_drewN ?_ _ | refine blk_drew ?_ | refine blk_alloc ?_ _)); refine blk_far ?_ NB596_603.out _; (with_reducible repeat (first | refine blk_drewN ?_ _ | refine blk_drew ?_ | refine blk_alloc ?_ _)); exact BK596.out⟩
      have n1_ : Aside0 (((w24.setCell ⟨gb603, 0, none⟩ (.int .i64 (wrap64 ((wrap64 (a1_0 * (wrap64 (a2_1 * t601)))) + (wrap64 (a1_1 * t600)))))).setCell ⟨gb603, 1, none⟩ (.int .i64 (wrap64 ((wrap64 (a1_2 * (wrap64 (a2_1 * t601)))) + (wrap64 (a1_3 * t600)))))).heap[gb597]? = some (.cells #[.int .i64 a2_0, .int .i64 a2_1, .int .i64 a2_2] 55 (0, 0))) := ⟨by (with_reducible repeat (first | refine blk_drewN ?_ _ | refine blk_drew ?_ | refine blk_alloc ?_ _)); refine blk_far ?_ NB597_603.out _; (with_reducible repeat (first | refine blk_drewN ?_ _ | refine blk_drew ?_ | refine blk_alloc ?_ _)); refine blk_far ?_ NB597_603.out _; (with_reducible repeat (first | refine blk_drewN ?_ _ | refine blk_drew ?_ | refine blk_alloc ?_ _)); exact BK597.out⟩
      have n2_ : Aside0 (((w24.setCell ⟨gb603, 0, none⟩ (.int .i64 (wrap64 ((wrap64 (a1_0 * (wrap64 (a2_1 * t601)))) + (wrap64 (a1_1 * t600)))))).setCell ⟨gb603, 1, none⟩ (.int .i64 (wrap64 ((wrap64 (a1_2 * (wrap64 (a2_1 * t601)))) + (wrap64 (a1_3 * t600)))))).heap[gb598]? = some (.cells #[.int .i64 0, .int .i64 0, .int .i64 0] 55 (0, 0))) := ⟨by (with_reducible repeat (first | refine blk_drewN ?_ _ | refine blk_drew ?_ | refine blk_alloc ?_ _)); refine blk_far ?_ NB598_603.out _; (with_reducible repeat (first | refine blk_drewN ?_ _ | refine blk_drew ?_ | refine blk_alloc ?_ _)); refine blk_far ?_ NB598_603.out _; (with_reducible repeat (first | refine blk_drewN ?_ _ | refine blk_drew ?_ | refine blk_alloc ?_ _)); exact BK598.out⟩
      have n3_ : Aside0 (((w24.setCell ⟨gb603, 0, none⟩ (.int .i64 (wrap64 ((wrap64 (a1_0 * (wrap64 (a2_1 * t601)))) + (wrap64 (a1_1 * t600)))))).setCell ⟨gb603, 1, none⟩ (.int .i64 (wrap64 ((wrap64 (a1_2 * (wrap64 (a2_1 * t601)))) + (wrap64 (a1_3 * t600)))))).heap[gb602]? = some (.cells #[.int .i64 (wrap64 (a1_0 * t599)), .int .i64 (wrap64 (a1_2 * t599))] 22 (0, 0))) := ⟨by (with_reducible repeat (first | refine blk_drewN ?_ _ | refine blk_drew ?_ | refine blk_alloc ?_ _)); refine blk_far ?_ NB602_603.out _; (with_reducible repeat (first | refine blk_drewN ?_ _ | refine blk_drew ?_ | refine blk_alloc ?_ _)); refine blk_far ?_ NB602_603.out _; (with_reducible repeat (first | refine blk_drewN ?_ _ | refine blk_drew ?_ | refine blk_alloc ?_ _)); exact BK602.out⟩
      have n4_ : Aside0 (((w24.setCell ⟨gb603, 0, none⟩ (.int .i64 (wrap64 ((wrap64 (a1_0 * (wrap64 (a2_1 * t601)))) + (wrap64 (a1_1 * t600)))))).setCell ⟨gb603, 1, none⟩ (.int .i64 (wrap64 ((wrap64 (a1_2 * (wrap64 (a2_1 * t601)))) + (wrap64 (a1_3 * t600)))))).heap[gb603]? = some (.cells #[.int .i64 (wrap64 ((wrap64 (a1_0 * (wrap64 (a2_1 * t601)))) + (wrap64 (a1_1 * t600)))), .int .i64 (wrap64 ((wrap64 (a1_2 * (wrap64 (a2_1 * t601)))) + (wrap64 (a1_3 * t600))))] 22 (0, 0))) := ⟨by (with_reducible repeat (first | refine blk_drewN ?_ _ | refine blk_drew ?_ | refine blk_alloc ?_ _)); refine blk_put (cs := #[.int .i64 (wrap64 ((wrap64 (a1_0 * (wrap64 (a2_1 * t601)))) + (wrap64 (a1_1 * t600)))), .int .i64 0]) ?_ 1 _ rfl; (with_reducible repeat (first | refine blk_drewN ?_ _ | refine blk_drew ?_ | refine blk_alloc ?_ _)); refine blk_put (cs := #[.int .i64 0, .int .i64 0]) ?_ 0 _ rfl; (with_reducible repeat (first | refine blk_drewN ?_ _ | refine blk_drew ?_ | refine blk_alloc ?_ _)); exact BK603.out⟩
      have n5_ : Aside0 (Below w.heap.size w ((w24.setCell ⟨gb603, 0, none⟩ (.int .i64 (wrap64 ((wrap64 (a1_0 * (wrap64 (a2_1 * t601)))) + (wrap64 (a1_1 * t600)))))).setCell ⟨gb603, 1, none⟩ (.int .i64 (wrap64 ((wrap64 (a1_2 * (wrap64 (a2_1 * t601)))) + (wrap64 (a1_3 * t600))))))) := ⟨blA⟩
      (try clear BK596)
      (try clear BK597)
      (try clear BK598)
      (try clear BK602)
      (try clear BK603)
      (try clear HB)
      generalize ((w24.setCell ⟨gb603, 0, none⟩ (.int .i64 (wrap64 ((wrap64 (a1_0 * (wrap64 (a2_1 * t601)))) + (wrap64 (a1_1 * t600)))))).setCell ⟨gb603, 1, none⟩ (.int .i64 (wrap64 ((wrap64 (a1_2 * (wrap64 (a2_1 * t601)))) + (wrap64 (a1_3 * t600)))))) = w31 at n0_ n1_ n2_ n3_ n4_ n5_ ⊢
      have BK596 := n0_
      have BK597 := n1_
      have BK598 := n2_
      have BK602 := n3_
      have BK603 := n4_
      have HB := n5_
      clear n0_ n1_ n2_ n3_ n4_ n5_
      have n0_ := Aside0.mk (blk_drew BK596.out)
      have n1_ := Aside0.mk (blk_drew BK597.out)
      have n2_ := Aside0.mk (blk_drew BK598.out)
      have n3_ := Aside0.mk (blk_drew BK602.out)
      have n4_ := Aside0.mk (blk_drew BK603.out)
      have n5_ := Aside0.mk (below_drew1 HB.out)
      clear BK596
      clear BK597
      clear BK598
      clear BK602
      clear BK603
      clear HB
      have BK596 := n0_
      have BK597 := n1_
      have BK598 := n2_
      have BK602 := n3_
      have BK603 := n4_
      have HB := n5_
      clear n0_ n1_ n2_ n3_ n4_ n5_
      refine start_ (n := 19) (S := fun w' => w'.cell? ⟨gb603, 0, none⟩ = some (.int .i64 (wrap64 ((wrap64 (a1_0 * (wrap64 (a2_1 * t601)))) + (wrap64 (a1_1 * t600))))) ∧ w'.cell? ⟨gb603, 1, none⟩ = some (.int .i64 (wrap64 ((wrap64 (a1_2 * (wrap64 (a2_1 * t601)))) + (wrap64 (a1_3 * t600)))))) (ds := []) #[false, false, false, false, false, false, false, false, false, false, false, false, false, false, false, false, false, false, false] (by kernel_rfl) rfl rfl ⟨(blk_cell BK603.out 0).trans rfl, (blk_cell BK603.out 1).trans rfl⟩ (fun hHeld => ?_); refine with_tabW spec_l04Move.tab6 spec_l04Move.bits6 (fun HT_ HW_ => ?_)
      generalize w31.drew = w32 at BK596 BK597 BK598 BK602 BK603 HB hHeld ⊢
      refine pure_ (i := 0) (N := some 73) (v := ?_) (a' := ?_) #[true, false, false, false, false, false, false, false, false, false, false, false, false, false, false, false, false, false, false] rfl rfl (any_of HT_.out (by kernel_rfl)) (fun _ _ _ h => h) (Or.inl ⟨by rfl, ?_⟩) ?_ ?_
      rotate_left
      · intro w'
        go_simp
        with_reducible rfl
      rotate_left
      · simp only [Act.put, List.setIfInBounds_toArray, List.set_cons_zero, List.set_cons_succ, i64_w, i32_w]
        rfl
      refine take_ (i := 1) (N := some 74) (v := ?_) (a' := ?_) #[true, true, false, false, false, false, false, false, false, false, false, false, false, false, false, false, false, false, false] rfl rfl (take_ofW HT_.out HW_.out (by kernel_rfl)) (fun _ _ _ h => h) (Or.inl ⟨by rfl, ?_⟩) hHeld ?_ ?_
      rotate_left
      · rintro w' ⟨s0, s1⟩
        go_simp
        with_reducible rfl
      rotate_left
      · simp only [Act.put, List.setIfInBounds_toArray, List.set_cons_zero, List.set_cons_succ, i64_w, i32_w]
        rfl
      refine pure_ (i := 2) (N := some 75) (v := ?_) (a' := ?_) #[true, true, true, false, false, false, false, false, false, false, false, false, false, false, false, false, false, false, false] rfl rfl (any_of HT_.out (by kernel_rfl)) (fun _ _ _ h => h) (Or.inl ⟨by rfl, ?_⟩) ?_ ?_
      rotate_left
      · intro w'
        go_simp
        with_reducible rfl
      rotate_left
      · simp only [Act.put, List.setIfInBounds_toArray, List.set_cons_zero, List.set_cons_succ, i64_w, i32_w]
        rfl
      refine pure_ (i := 3) (N := some 76) (v := ?_) (a' := ?_) #[true, true, true, true, false, false, false, false, false, false, false, false, false, false, false, false, false, false, false] rfl rfl (any_of HT_.out (by kernel_rfl)) (fun _ _ _ h => h) (Or.inl ⟨by rfl, ?_⟩) ?_ ?_
      rotate_left
      · intro w'
        go_simp
        with_reducible rfl
      rotate_left
      · simp only [Act.put, List.setIfInBounds_toArray, List.set_cons_zero, List.set_cons_succ, i64_w, i32_w]
        rfl
      refine pure_ (i := 4) (N := some 77) (v := undef) (a' := ?_) #[true, true, true, true, true, false, false, false, false, false, false, false, false, false, false, false, false, false, false] rfl rfl (any_of HT_.out (by kernel_rfl)) (fun _ _ _ h => h) (Or.inr ⟨by rfl, rfl⟩) ?_ ?_
      rotate_left
      · simp only [Act.put, List.setIfInBounds_toArray, List.set_cons_zero, List.set_cons_succ, i64_w, i32_w]
        rfl
      refine pure_ (i := 5) (N := some 78) (v := undef) (a' := ?_) #[true, true, true, true, true, true, false, false, false, false, false, false, false, false, false, false, false, false, false] rfl rfl (any_of HT_.out (by kernel_rfl)) (fun _ _ _ h => h) (Or.inr ⟨by rfl, rfl⟩) ?_ ?_
      rotate_left
      · simp only [Act.put, List.setIfInBounds_toArray, List.set_cons_zero, List.set_cons_succ, i64_w, i32_w]
        rfl
      refine pure_ (i := 6) (N := some 79) (v := undef) (a' := ?_) #[true, true, true, true, true, true, true, false, false, false, false, false, false, false, false, false, false, false, false] rfl rfl (any_of HT_.out (by kernel_rfl)) (fun _ _ _ h => h) (Or.inr ⟨by rfl, rfl⟩) ?_ ?_
      rotate_left
      · simp only [Act.put, List.setIfInBounds_toArray, List.set_cons_zero, List.set_cons_succ, i64_w, i32_w]
        rfl
      refine pure_ (i := 7) (N := some 80) (v := undef) (a' := ?_) #[true, true, true, true, true, true, true, true, false, false, false, false, false, false, false, false, false, false, false] rfl rfl (any_of HT_.out (by kernel_rfl)) (fun _ _ _ h => h) (Or.inr ⟨by rfl, rfl⟩) ?_ ?_
      rotate_left
      · simp only [Act.put, List.setIfInBounds_toArray, List.set_cons_zero, List.set_cons_succ, i64_w, i32_w]
        rfl
      refine pure_ (i := 8) (N := some 81) (v := undef) (a' := ?_) #[true, true, true, true, true, true, true, true, true, false, false, false, false, false, false, false, false, false, false] rfl rfl (any_of HT_.out (by kernel_rfl)) (fun _ _ _ h => h) (Or.inr ⟨by rfl, rfl⟩) ?_ ?_
      rotate_left
      · simp only [Act.put, List.setIfInBounds_toArray, List.set_cons_zero, List.set_cons_succ, i64_w, i32_w]
        rfl
      refine pure_ (i := 9) (N := some 82) (v := undef) (a' := ?_) #[true, true, true, true, true, true, true, true, true, true, false, false, false, false, false, false, false, false, false] rfl rfl (any_of HT_.out (by kernel_rfl)) (fun _ _ _ h => h) (Or.inr ⟨by rfl, rfl⟩) ?_ ?_
      rotate_left
      · simp only [Act.put, List.setIfInBounds_toArray, List.set_cons_zero, List.set_cons_succ, i64_w, i32_w]
        rfl
      refine pure_ (i := 10) (N := some 83) (v := undef) (a' := ?_) #[true, true, true, true, true, true, true, true, true, true, true, false, false, false, false, false, false, false, false] rfl rfl (any_of HT_.out (by kernel_rfl)) (fun _ _ _ h => h) (Or.inr ⟨by rfl, rfl⟩) ?_ ?_
      rotate_left
      · simp only [Act.put, List.setIfInBounds_toArray, List.set_cons_zero, List.set_cons_succ, i64_w, i32_w]
        rfl
      refine pure_ (i := 11) (N := some 84) (v := undef) (a' := ?_) #[true, true, true, true, true, true, true, true, true, true, true, true, false, false, false, false, false, false, false] rfl rfl (any_of HT_.out (by kernel_rfl)) (fun _ _ _ h => h) (Or.inr ⟨by rfl, rfl⟩) ?_ ?_
      rotate_left
      · simp only [Act.put, List.setIfInBounds_toArray, List.set_cons_zero, List.set_cons_succ, i64_w, i32_w]
        rfl
      refine pure_ (i := 12) (N := some 85) (v := undef) (a' := ?_) #[true, true, true, true, true, true, true, true, true, true, true, true, true, false, false, false, false, false, false] rfl rfl (any_of HT_.out (by kernel_rfl)) (fun _ _ _ h => h) (Or.inr ⟨by rfl, rfl⟩) ?_ ?_
      rotate_left
      · simp only [Act.put, List.setIfInBounds_toArray, List.set_cons_zero, List.set_cons_succ, i64_w, i32_w]
        rfl
      refine pure_ (i := 13) (N := some 86) (v := undef) (a' := ?_) #[true, true, true, true, true, true, true, true, true, true, true, true, true, true, false, false, false, false, false] rfl rfl (any_of HT_.out (by kernel_rfl)) (fun _ _ _ h => h) (Or.inr ⟨by rfl, rfl⟩) ?_ ?_
      rotate_left
      · simp only [Act.put, List.setIfInBounds_toArray, List.set_cons_zero, List.set_cons_succ, i64_w, i32_w]
        rfl
      refine pure_ (i := 14) (N := some 87) (v := undef) (a' := ?_) #[true, true, true, true, true, true, true, true, true, true, true, true, true, true, true, false, false, false, false] rfl rfl (any_of HT_.out (by kernel_rfl)) (fun _ _ _ h => h) (Or.inr ⟨by rfl, rfl⟩) ?_ ?_
      rotate_left
      · simp only [Act.put, List.setIfInBounds_toArray, List.set_cons_zero, List.set_cons_succ, i64_w, i32_w]
        rfl
      refine pure_ (i := 15) (N := some 88) (v := undef) (a' := ?_) #[true, true, true, true, true, true, true, true, true, true, true, true, true, true, true, true, false, false, false] rfl rfl (any_of HT_.out (by kernel_rfl)) (fun _ _ _ h => h) (Or.inr ⟨by rfl, rfl⟩) ?_ ?_
      rotate_left
      · simp only [Act.put, List.setIfInBounds_toArray, List.set_cons_zero, List.set_cons_succ, i64_w, i32_w]
        rfl
      refine pure_ (i := 16) (N := some 89) (v := undef) (a' := ?_) #[true, true, true, true, true, true, true, true, true, true, true, true, true, true, true, true, true, false, false] rfl rfl (any_of HT_.out (by kernel_rfl)) (fun _ _ _ h => h) (Or.inr ⟨by rfl, rfl⟩) ?_ ?_
      rotate_left
      · simp only [Act.put, List.setIfInBounds_toArray, List.set_cons_zero, List.set_cons_succ, i64_w, i32_w]
        rfl
      refine pure_ (i := 17) (N := some 90) (v := undef) (a' := ?_) #[true, true, true, true, true, true, true, true, true, true, true, true, true, true, true, true, true, true, false] rfl rfl (any_of HT_.out (by kernel_rfl)) (fun _ _ _ h => h) (Or.inr ⟨by rfl, rfl⟩) ?_ ?_
      rotate_left
      · simp only [Act.put, List.setIfInBounds_toArray, List.set_cons_zero, List.set_cons_succ, i64_w, i32_w]
        rfl
      refine pure_ (i := 18) (N := some 91) (v := ?_) (a' := ?_) #[true, true, true, true, true, true, true, true, true, true, true, true, true, true, true, true, true, true, true] rfl rfl (any_of HT_.out (by kernel_rfl)) (fun _ _ _ h => h) (Or.inl ⟨by rfl, ?_⟩) ?_ ?_
      rotate_left
      · intro w'
        go_simp
        with_reducible rfl
      rotate_left
      · simp only [Act.put, List.setIfInBounds_toArray, List.set_cons_zero, List.set_cons_succ, i64_w, i32_w]
        rfl
      refine done_ (done_of HT_.out (by kernel_rfl)) ?_
      try go_wp2
      go_meet
      case rel => exact ⟨_, (true), (by first | rfl | (simp; done) | (simp [*]; done)), H', ⟨by first | omega | exact Nat.le_refl _⟩, ⟨bkA BK596⟩, ⟨bkA BK597⟩, ⟨bkA BK598⟩, ⟨bkA BK602⟩, ⟨bkA BK603⟩, ⟨blA⟩⟩
    · rw [if_neg c30] at H
      have c30b0 : ((wrap64 ((wrap64 (a1_2 * (wrap64 (a2_1 * t601)))) + (wrap64 (a1_3 * t600)))) == 0) = false := beq_eq_false_iff_ne.mpr c30
      have c30b1 : ((wrap64 ((wrap64 (a1_2 * (wrap64 (a2_1 * t601)))) + (wrap64 (a1_3 * t600)))) != 0) = true := bne_iff_ne.mpr c30
      (first | rw [c30b0] | (simp only [i64_w, i32_w]; rw [c30b0]) | skip)
      by_cases c33 : (wrap64 (a1_2 * t599)) = 0
      · rw [if_pos c33] at H
        have c33b0 : ((wrap64 (a1_2 * t599)) == 0) = true := beq_iff_eq.mpr c33
        have c33b1 : ((wrap64 (a1_2 * t599)) != 0) = false := bne_eq_false_iff_eq.mpr c33
        clear c33
        have H' := Aside0.mk H
        clear H
        try go_wp2
        have n0_ : Aside0 (((w24.setCell ⟨gb603, 0, none⟩ (.int .i64 (wrap64 ((wrap64 (a1_0 * (wrap64 (a2_1 * t601)))) + (wrap64 (a1_1 * t600)))))).setCell ⟨gb603, 1, none⟩ (.int .i64 (wrap64 ((wrap64 (a1_2 * (wrap64 (a2_1 * t601)))) + (wrap64 (a1_3 * t600)))))).heap[gb596]? = some (.cells #[.int .i64 a1_0, .int .i64 a1_1, .int .i64 a1_2, .int .i64 a1_3] 25 (0, 0))) := ⟨by (with_reducible repeat (first | refine blk_drewN ?_ _ | refine blk_drew ?_ | refine blk_alloc ?_ _)); refine blk_far ?_ NB596_603.out _; (with_reducible repeat (first | refine blk_drewN ?_ _ | refine blk_drew ?_ | refine blk_alloc ?_ _)); refine blk_far ?_ NB596_603.out _; (with_reducible repeat (first | refine blk_drewN ?_ _ | refine blk_drew ?_ | refine blk_alloc ?_ _)); exact BK596.out⟩
        have n1_ : Aside0 (((w24.setCell ⟨gb603, 0, none⟩ (.int .i64 (wrap64 ((wrap64 (a1_0 * (wrap64 (a2_1 * t601)))) + (wrap64 (a1_1 * t600)))))).setCell ⟨gb603, 1, none⟩ (.int .i64 (wrap64 ((wrap64 (a1_2 * (wrap64 (a2_1 * t601)))) + (wrap64 (a1_3 * t600)))))).heap[gb597]? = some (.cells #[.int .i64 a2_0, .int .i64 a2_1, .int .i64 a2_2] 55 (0, 0))) := ⟨by (with_reducible repeat (first | refine blk_drewN ?_ _ | refine blk_drew ?_ | refine blk_alloc ?_ _)); refine blk_far ?_ NB597_603.out _; (with_reducible repeat (first | refine blk_drewN ?_ _ | refine blk_drew ?_ | refine blk_alloc ?_ _)); refine blk_far ?_ NB597_603.out _; (with_reducible repeat (first | refine blk_drewN ?_ _ | refine blk_drew ?_ | refine blk_alloc ?_ _)); exact BK597.out⟩
        have n2_ : Aside0 (((w24.setCell ⟨gb603, 0, none⟩ (.int .i64 (wrap64 ((wrap64 (a1_0 * (wrap64 (a2_1 * t601)))) + (wrap64 (a1_1 * t600)))))).setCell ⟨gb603, 1, none⟩ (.int .i64 (wrap64 ((wrap64 (a1_2 * (wrap64 (a2_1 * t601)))) + (wrap64 (a1_3 * t600)))))).heap[gb598]? = some (.cells #[.int .i64 0, .int .i64 0, .int .i64 0] 55 (0, 0))) := ⟨by (with_reducible repeat (first | refine blk_drewN ?_ _ | refine blk_drew ?_ | refine blk_alloc ?_ _)); refine blk_far ?_ NB598_603.out _; (with_reducible repeat (first | refine blk_drewN ?_ _ | refine blk_drew ?_ | refine blk_alloc ?_ _)); refine blk_far ?_ NB598_603.out _; (with_reducible repeat (first | refine blk_drewN ?_ _ | refine blk_drew ?_ | refine blk_alloc ?_ _)); exact BK598.out⟩
        have n3_ : Aside0 (((w24.setCell ⟨gb603, 0, none⟩ (.int .i64 (wrap64 ((wrap64 (a1_0 * (wrap64 (a2_1 * t601)))) + (wrap64 (a1_1 * t600)))))).setCell ⟨gb603, 1, none⟩ (.int .i64 (wrap64 ((wrap64 (a1_2 * (wrap64 (a2_1 * t601)))) + (wrap64 (a1_3 * t600)))))).heap[gb602]? = some (.cells #[.int .i64 (wrap64 (a1_0 * t599)), .int .i64 (wrap64 (a1_2 * t599))] 22 (0, 0))) := ⟨by (with_reducible repeat (first | refine blk_drewN ?_ _ | refine blk_drew ?_ | refine blk_alloc ?_ _)); refine blk_far ?_ NB602_603.out _; (with_reducible repeat (first | refine blk_drewN ?_ _ | refine blk_drew ?_ | refine blk_alloc ?_ _)); refine blk_far ?_ NB602_603.out _; (with_reducible repeat (first | refine blk_drewN ?_ _ | refine blk_drew ?_ | refine blk_alloc ?_ _)); exact BK602.out⟩
        have n4_ : Aside0 (((w24.setCell ⟨gb603, 0, none⟩ (.int .i64 (wrap64 ((wrap64 (a1_0 * (wrap64 (a2_1 * t601)))) + (wrap64 (a1_1 * t600)))))).setCell ⟨gb603, 1, none⟩ (.int .i64 (wrap64 ((wrap64 (a1_2 * (wrap64 (a2_1 * t601)))) + (wrap64 (a1_3 * t600)))))).heap[gb603]? = some (.cells #[.int .i64 (wrap64 ((wrap64 (a1_0 * (wrap64 (a2_1 * t601)))) + (wrap64 (a1_1 * t600)))), .int .i64 (wrap64 ((wrap64 (a1_2 * (wrap64 (a2_1 * t601)))) + (wrap64 (a1_3 * t600))))] 22 (0, 0))) := ⟨by (with_reducible repeat (first | refine blk_drewN ?_ _ | refine blk_drew ?_ | refine blk_alloc ?_ _)); refine blk_put (cs := #[.int .i64 (wrap64 ((wrap64 (a1_0 * (wrap64 (a2_1 * t601)))) + (wrap64 (a1_1 * t600)))), .int .i64 0]) ?_ 1 _ rfl; (with_reducible repeat (first | refine blk_drewN ?_ _ | refine blk_drew ?_ | refine blk_alloc ?_ _)); refine blk_put (cs := #[.int .i64 0, .int .i64 0]) ?_ 0 _ rfl; (with_reducible repeat (first | refine blk_drewN ?_ _ | refine blk_drew ?_ | refine blk_alloc ?_ _)); exact BK603.out⟩
        have n5_ : Aside0 (Below w.heap.size w ((w24.setCell ⟨gb603, 0, none⟩ (.int .i64 (wrap64 ((wrap64 (a1_0 * (wrap64 (a2_1 * t601)))) + (wrap64 (a1_1 * t600)))))).setCell ⟨gb603, 1, none⟩ (.int .i64 (wrap64 ((wrap64 (a1_2 * (wrap64 (a2_1 * t601)))) + (wrap64 (a1_3 * t600))))))) := ⟨blA⟩
        (try clear BK596)
        (try clear BK597)
        (try clear BK598)
        (try clear BK602)
        (try clear BK603)
        (try clear HB)
        generalize ((w24.setCell ⟨gb603, 0, none⟩ (.int .i64 (wrap64 ((wrap64 (a1_0 * (wrap64 (a2_1 * t601)))) + (wrap64 (a1_1 * t600)))))).setCell ⟨gb603, 1, none⟩ (.int .i64 (wrap64 ((wrap64 (a1_2 * (wrap64 (a2_1 * t601)))) + (wrap64 (a1_3 * t600)))))) = w34 at n0_ n1_ n2_ n3_ n4_ n5_ ⊢
        have BK596 := n0_
        have BK597 := n1_
        have BK598 := n2_
        have BK602 := n3_
        have BK603 := n4_
        have HB := n5_
        clear n0_ n1_ n2_ n3_ n4_ n5_
        have n0_ := Aside0.mk (blk_drew BK596.out)
        have n1_ := Aside0.mk (blk_drew BK597.out)
        have n2_ := Aside0.mk (blk_drew BK598.out)
        have n3_ := Aside0.mk (blk_drew BK602.out)
        have n4_ := Aside0.mk (blk_drew BK603.out)
        have n5_ := Aside0.mk (below_drew1 HB.out)
        clear BK596
        clear BK597
        clear BK598
        clear BK602
        clear BK603
        clear HB
        have BK596 := n0_
        have BK597 := n1_
        have BK598 := n2_
        have BK602 := n3_
        have BK603 := n4_
        have HB := n5_
        clear n0_ n1_ n2_ n3_ n4_ n5_
        refine start_ (n := 19) (S := fun w' => w'.cell? ⟨gb603, 0, none⟩ = some (.int .i64 (wrap64 ((wrap64 (a1_0 * (wrap64 (a2_1 * t601)))) + (wrap64 (a1_1 * t600))))) ∧ w'.cell? ⟨gb603, 1, none⟩ = some (.int .i64 (wrap64 ((wrap64 (a1_2 * (wrap64 (a2_1 * t601)))) + (wrap64 (a1_3 * t600))))) ∧ w'.cell? ⟨gb602, 0, none⟩ = some (.int .i64 (wrap64 (a1_0 * t599))) ∧ w'.cell? ⟨gb602, 1, none⟩ = some (.int .i64 (wrap64 (a1_2 * t599)))) (ds := []) #[false, false, false, false, false, false, false, false, false, false, false, false, false, false, false, false, false, false, false] (by kernel_rfl) rfl rfl ⟨(blk_cell BK603.out 0).trans rfl, (blk_cell BK603.out 1).trans rfl, (blk_cell BK602.out 0).trans rfl, (blk_cell BK602.out 1).trans rfl⟩ (fun hHeld => ?_); refine with_tabW spec_l04Move.tab6 spec_l04Move.bits6 (fun HT_ HW_ => ?_)
        generalize w34.drew = w35 at BK596 BK597 BK598 BK602 BK603 HB hHeld ⊢
        refine pure_ (i := 0) (N := some 73) (v := ?_) (a' := ?_) #[true, false, false, false, false, false, false, false, false, false, false, false, false, false, false, false, false, false, false] rfl rfl (any_of HT_.out (by kernel_rfl)) (fun _ _ _ h => h) (Or.inl ⟨by rfl, ?_⟩) ?_ ?_
        rotate_left
        · intro w'
          go_simp
          with_reducible rfl
        rotate_left
        · simp only [Act.put, List.setIfInBounds_toArray, List.set_cons_zero, List.set_cons_succ, i64_w, i32_w]
          rfl
        refine take_ (i := 1) (N := some 74) (v := ?_) (a' := ?_) #[true, true, false, false, false, false, false, false, false, false, false, false, false, false, false, false, false, false, false] rfl rfl (take_ofW HT_.out HW_.out (by kernel_rfl)) (fun _ _ _ h => h) (Or.inl ⟨by rfl, ?_⟩) hHeld ?_ ?_
        rotate_left
        · rintro w' ⟨s0, s1, s2, s3⟩
          go_simp
          with_reducible rfl
        rotate_left
        · simp only [Act.put, List.setIfInBounds_toArray, List.set_cons_zero, List.set_cons_succ, i64_w, i32_w]
          rfl
        refine pure_ (i := 2) (N := some 75) (v := ?_) (a' := ?_) #[true, true, true, false, false, false, false, false, false, false, false, false, false, false, false, false, false, false, false] rfl rfl (any_of HT_.out (by kernel_rfl)) (fun _ _ _ h => h) (Or.inl ⟨by rfl, ?_⟩) ?_ ?_
        rotate_left
        · intro w'
          go_simp
          with_reducible rfl
        rotate_left
        · simp only [Act.put, List.setIfInBounds_toArray, List.set_cons_zero, List.set_cons_succ, i64_w, i32_w]
          rfl
        refine pure_ (i := 3) (N := some 76) (v := ?_) (a' := ?_) #[true, true, true, true, false, false, false, false, false, false, false, false, false, false, false, false, false, false, false] rfl rfl (any_of HT_.out (by kernel_rfl)) (fun _ _ _ h => h) (Or.inl ⟨by rfl, ?_⟩) ?_ ?_
        rotate_left
        · intro w'
          go_simp
          with_reducible rfl
        rotate_left
        · simp only [Act.put, List.setIfInBounds_toArray, List.set_cons_zero, List.set_cons_succ, i64_w, i32_w]
          rfl
        refine pure_ (i := 4) (N := some 77) (v := ?_) (a' := ?_) #[true, true, true, true, true, false, false, false, false, false, false, false, false, false, false, false, false, false, false] rfl rfl (any_of HT_.out (by kernel_rfl)) (fun _ _ _ h => h) (Or.inl ⟨by rfl, ?_⟩) ?_ ?_
        rotate_left
        · intro w'
          go_simp
          with_reducible rfl
        rotate_left
        · simp only [Act.put, List.setIfInBounds_toArray, List.set_cons_zero, List.set_cons_succ, i64_w, i32_w]
          rfl
        refine take_ (i := 5) (N := some 78) (v := ?_) (a' := ?_) #[true, true, true, true, true, true, false, false, false, false, false, false, false, false, false, false, false, false, false] rfl rfl (take_ofW HT_.out HW_.out (by kernel_rfl)) (fun _ _ _ h => h) (Or.inl ⟨by rfl, ?_⟩) hHeld ?_ ?_
        rotate_left
        · rintro w' ⟨s0, s1, s2, s3⟩
          go_simp
          with_reducible rfl
        rotate_left
        · simp only [Act.put, List.setIfInBounds_toArray, List.set_cons_zero, List.set_cons_succ, i64_w, i32_w]
          rfl
        refine pure_ (i := 6) (N := some 79) (v := ?_) (a' := ?_) #[true, true, true, true, true, true, true, false, false, false, false, false, false, false, false, false, false, false, false] rfl rfl (any_of HT_.out (by kernel_rfl)) (fun _ _ _ h => h) (Or.inl ⟨by rfl, ?_⟩) ?_ ?_
        rotate_left
        · intro w'
          go_simp
          with_reducible rfl
        rotate_left
        · simp only [Act.put, List.setIfInBounds_toArray, List.set_cons_zero, List.set_cons_succ, i64_w, i32_w]
          rfl
        refine pure_ (i := 7) (N := some 80) (v := ?_) (a' := ?_) #[true, true, true, true, true, true, true, true, false, false, false, false, false, false, false, false, false, false, false] rfl rfl (any_of HT_.out (by kernel_rfl)) (fun _ _ _ h => h) (Or.inl ⟨by rfl, ?_⟩) ?_ ?_
        rotate_left
        · intro w'
          go_simp
          with_reducible rfl
        rotate_left
        · simp only [Act.put, List.setIfInBounds_toArray, List.set_cons_zero, List.set_cons_succ, i64_w, i32_w]
          rfl
        refine pure_ (i := 8) (N := some 81) (v := undef) (a' := ?_) #[true, true, true, true, true, true, true, true, true, false, false, false, false, false, false, false, false, false, false] rfl rfl (any_of HT_.out (by kernel_rfl)) (fun _ _ _ h => h) (Or.inr ⟨by rfl, rfl⟩) ?_ ?_
        rotate_left
        · simp only [Act.put, List.setIfInBounds_toArray, List.set_cons_zero, List.set_cons_succ, i64_w, i32_w]
          rfl
        refine pure_ (i := 9) (N := some 82) (v := undef) (a' := ?_) #[true, true, true, true, true, true, true, true, true, true, false, false, false, false, false, false, false, false, false] rfl rfl (any_of HT_.out (by kernel_rfl)) (fun _ _ _ h => h) (Or.inr ⟨by rfl, rfl⟩) ?_ ?_
        rotate_left
        · simp only [Act.put, List.setIfInBounds_toArray, List.set_cons_zero, List.set_cons_succ, i64_w, i32_w]
          rfl
        refine pure_ (i := 10) (N := some 83) (v := undef) (a' := ?_) #[true, true, true, true, true, true, true, true, true, true, true, false, false, false, false, false, false, false, false] rfl rfl (any_of HT_.out (by kernel_rfl)) (fun _ _ _ h => h) (Or.inr ⟨by rfl, rfl⟩) ?_ ?_
        rotate_left
        · simp only [Act.put, List.setIfInBounds_toArray, List.set_cons_zero, List.set_cons_succ, i64_w, i32_w]
          rfl
        refine pure_ (i := 11) (N := some 84) (v := undef) (a' := ?_) #[true, true, true, true, true, true, true, true, true, true, true, true, false, false, false, false, false, false, false] rfl rfl (any_of HT_.out (by kernel_rfl)) (fun _ _ _ h => h) (Or.inr ⟨by rfl, rfl⟩) ?_ ?_
        rotate_left
        · simp only [Act.put, List.setIfInBounds_toArray, List.set_cons_zero, List.set_cons_succ, i64_w, i32_w]
          rfl
        refine pure_ (i := 12) (N := some 85) (v := undef) (a' := ?_) #[true, true, true, true, true, true, true, true, true, true, true, true, true, false, false, false, false, false, false] rfl rfl (any_of HT_.out (by kernel_rfl)) (fun _ _ _ h => h) (Or.inr ⟨by rfl, rfl⟩) ?_ ?_
        rotate_left
        · simp only [Act.put, List.setIfInBounds_toArray, List.set_cons_zero, List.set_cons_succ, i64_w, i32_w]
          rfl
        refine pure_ (i := 13) (N := some 86) (v := undef) (a' := ?_) #[true, true, true, true, true, true, true, true, true, true, true, true, true, true, false, false, false, false, false] rfl rfl (any_of HT_.out (by kernel_rfl)) (fun _ _ _ h => h) (Or.inr ⟨by rfl, rfl⟩) ?_ ?_
        rotate_left
        · simp only [Act.put, List.setIfInBounds_toArray, List.set_cons_zero, List.set_cons_succ, i64_w, i32_w]
          rfl
        refine pure_ (i := 14) (N := some 87) (v := undef) (a' := ?_) #[true, true, true, true, true, true, true, true, true, true, true, true, true, true, true, false, false, false, false] rfl rfl (any_of HT_.out (by kernel_rfl)) (fun _ _ _ h => h) (Or.inr ⟨by rfl, rfl⟩) ?_ ?_
        rotate_left
        · simp only [Act.put, List.setIfInBounds_toArray, List.set_cons_zero, List.set_cons_succ, i64_w, i32_w]
          rfl
        refine pure_ (i := 15) (N := some 88) (v := undef) (a' := ?_) #[true, true, true, true, true, true, true, true, true, true, true, true, true, true, true, true, false, false, false] rfl rfl (any_of HT_.out (by kernel_rfl)) (fun _ _ _ h => h) (Or.inr ⟨by rfl, rfl⟩) ?_ ?_
        rotate_left
        · simp only [Act.put, List.setIfInBounds_toArray, List.set_cons_zero, List.set_cons_succ, i64_w, i32_w]
          rfl
        refine pure_ (i := 16) (N := some 89) (v := undef) (a' := ?_) #[true, true, true, true, true, true, true, true, true, true, true, true, true, true, true, true, true, false, false] rfl rfl (any_of HT_.out (by kernel_rfl)) (fun _ _ _ h => h) (Or.inr ⟨by rfl, rfl⟩) ?_ ?_
        rotate_left
        · simp only [Act.put, List.setIfInBounds_toArray, List.set_cons_zero, List.set_cons_succ, i64_w, i32_w]
          rfl
        refine pure_ (i := 17) (N := some 90) (v := ?_) (a' := ?_) #[true, true, true, true, true, true, true, true, true, true, true, true, true, true, true, true, true, true, false] rfl rfl (any_of HT_.out (by kernel_rfl)) (fun _ _ _ h => h) (Or.inl ⟨by rfl, ?_⟩) ?_ ?_
        rotate_left
        · intro w'
          go_simp
          with_reducible rfl
        rotate_left
        · simp only [Act.put, List.setIfInBounds_toArray, List.set_cons_zero, List.set_cons_succ, i64_w, i32_w]
          rfl
        refine pure_ (i := 18) (N := some 91) (v := ?_) (a' := ?_) #[true, true, true, true, true, true, true, true, true, true, true, true, true, true, true, true, true, true, true] rfl rfl (any_of HT_.out (by kernel_rfl)) (fun _ _ _ h => h) (Or.inl ⟨by rfl, ?_⟩) ?_ ?_
        rotate_left
        · intro w'
          go_simp
          with_reducible rfl
        rotate_left
        · simp only [Act.put, List.setIfInBounds_toArray, List.set_cons_zero, List.set_cons_succ, i64_w, i32_w]
          rfl
        refine done_ (done_of HT_.out (by kernel_rfl)) ?_
        try go_wp2
        go_meet
        case rel => exact ⟨_, (false), (by first | rfl | (simp; done) | (simp [*]; done)), H', ⟨by first | omega | exact Nat.le_refl _⟩, ⟨bkA BK596⟩, ⟨bkA BK597⟩, ⟨bkA BK598⟩, ⟨bkA BK602⟩, ⟨bkA BK603⟩, ⟨blA⟩⟩
      · rw [if_neg c33] at H
        have c33b0 : ((wrap64 (a1_2 * t599)) == 0) = false := beq_eq_false_iff_ne.mpr c33
        have c33b1 : ((wrap64 (a1_2 * t599)) != 0) = true := bne_iff_ne.mpr c33
        replace H := Option.bind_eq_some_iff.mp H
        obtain ⟨t604, A360, H⟩ := H
        replace H : ((spec_l01Val.f k a0 (wrap64 (a1_2 * t599))).bind fun t605 => (spec_l04Move.j0 k a0 ji4 (decide (t604 > t605)) a1_0 a1_1 a1_2 a1_3 a2_0 a2_1 a2_2 (wrap64 (a1_0 * t599)) (wrap64 (a1_2 * t599)) (wrap64 ((wrap64 (a1_0 * (wrap64 (a2_1 * t601)))) + (wrap64 (a1_1 * t600)))) (wrap64 ((wrap64 (a1_2 * (wrap64 (a2_1 * t601)))) + (wrap64 (a1_3 * t600)))))) = some (r1, r2, r3, r4) := H
        have A36 := Aside0.mk A360
        clear A360
        replace H := Option.bind_eq_some_iff.mp H
        obtain ⟨t605, A370, H⟩ := H
        replace H : (spec_l04Move.j0 k a0 ji4 (decide (t604 > t605)) a1_0 a1_1 a1_2 a1_3 a2_0 a2_1 a2_2 (wrap64 (a1_0 * t599)) (wrap64 (a1_2 * t599)) (wrap64 ((wrap64 (a1_0 * (wrap64 (a2_1 * t601)))) + (wrap64 (a1_1 * t600)))) (wrap64 ((wrap64 (a1_2 * (wrap64 (a2_1 * t601)))) + (wrap64 (a1_3 * t600))))) = some (r1, r2, r3, r4) := H
        have A37 := Aside0.mk A370
        clear A370
        have H' := Aside0.mk H
        clear H
        try go_wp2
        have n0_ : Aside0 (((w24.setCell ⟨gb603, 0, none⟩ (.int .i64 (wrap64 ((wrap64 (a1_0 * (wrap64 (a2_1 * t601)))) + (wrap64 (a1_1 * t600)))))).setCell ⟨gb603, 1, none⟩ (.int .i64 (wrap64 ((wrap64 (a1_2 * (wrap64 (a2_1 * t601)))) + (wrap64 (a1_3 * t600)))))).heap[gb596]? = some (.cells #[.int .i64 a1_0, .int .i64 a1_1, .int .i64 a1_2, .int .i64 a1_3] 25 (0, 0))) := ⟨by (with_reducible repeat (first | refine blk_drewN ?_ _ | refine blk_drew ?_ | refine blk_alloc ?_ _)); refine blk_far ?_ NB596_603.out _; (with_reducible repeat (first | refine blk_drewN ?_ _ | refine blk_drew ?_ | refine blk_alloc ?_ _)); refine blk_far ?_ NB596_603.out _; (with_reducible repeat (first | refine blk_drewN ?_ _ | refine blk_drew ?_ | refine blk_alloc ?_ _)); exact BK596.out⟩
        have n1_ : Aside0 (((w24.setCell ⟨gb603, 0, none⟩ (.int .i64 (wrap64 ((wrap64 (a1_0 * (wrap64 (a2_1 * t601)))) + (wrap64 (a1_1 * t600)))))).setCell ⟨gb603, 1, none⟩ (.int .i64 (wrap64 ((wrap64 (a1_2 * (wrap64 (a2_1 * t601)))) + (wrap64 (a1_3 * t600)))))).heap[gb597]? = some (.cells #[.int .i64 a2_0, .int .i64 a2_1, .int .i64 a2_2] 55 (0, 0))) := ⟨by (with_reducible repeat (first | refine blk_drewN ?_ _ | refine blk_drew ?_ | refine blk_alloc ?_ _)); refine blk_far ?_ NB597_603.out _; (with_reducible repeat (first | refine blk_drewN ?_ _ | refine blk_drew ?_ | refine blk_alloc ?_ _)); refine blk_far ?_ NB597_603.out _; (with_reducible repeat (first | refine blk_drewN ?_ _ | refine blk_drew ?_ | refine blk_alloc ?_ _)); exact BK597.out⟩
        have n2_ : Aside0 (((w24.setCell ⟨gb603, 0, none⟩ (.int .i64 (wrap64 ((wrap64 (a1_0 * (wrap64 (a2_1 * t601)))) + (wrap64 (a1_1 * t600)))))).setCell ⟨gb603, 1, none⟩ (.int .i64 (wrap64 ((wrap64 (a1_2 * (wrap64 (a2_1 * t601)))) + (wrap64 (a1_3 * t600)))))).heap[gb598]? = some (.cells #[.int .i64 0, .int .i64 0, .int .i64 0] 55 (0, 0))) := ⟨by (with_reducible repeat (first | refine blk_drewN ?_ _ | refine blk_drew ?_ | refine blk_alloc ?_ _)); refine blk_far ?_ NB598_603.out _; (with_reducible repeat (first | refine blk_drewN ?_ _ | refine blk_drew ?_ | refine blk_alloc ?_ _)); refine blk_far ?_ NB598_603.out _; (with_reducible repeat (first | refine blk_drewN ?_ _ | refine blk_drew ?_ | refine blk_alloc ?_ _)); exact BK598.out⟩
        have n3_ : Aside0 (((w24.setCell ⟨gb603, 0, none⟩ (.int .i64 (wrap64 ((wrap64 (a1_0 * (wrap64 (a2_1 * t601)))) + (wrap64 (a1_1 * t600)))))).setCell ⟨gb603, 1, none⟩ (.int .i64 (wrap64 ((wrap64 (a1_2 * (wrap64 (a2_1 * t601)))) + (wrap64 (a1_3 * t600)))))).heap[gb602]? = some (.cells #[.int .i64 (wrap64 (a1_0 * t599)), .int .i64 (wrap64 (a1_2 * t599))] 22 (0, 0))) := ⟨by (with_reducible repeat (first | refine blk_drewN ?_ _ | refine blk_drew ?_ | refine blk_alloc ?_ _)); refine blk_far ?_ NB602_603.out _; (with_reducible repeat (first | refine blk_drewN ?_ _ | refine blk_drew ?_ | refine blk_alloc ?_ _)); refine blk_far ?_ NB602_603.out _; (with_reducible repeat (first | refine blk_drewN ?_ _ | refine blk_drew ?_ | refine blk_alloc ?_ _)); exact BK602.out⟩
        have n4_ : Aside0 (((w24.setCell ⟨gb603, 0, none⟩ (.int .i64 (wrap64 ((wrap64 (a1_0 * (wrap64 (a2_1 * t601)))) + (wrap64 (a1_1 * t600)))))).setCell ⟨gb603, 1, none⟩ (.int .i64 (wrap64 ((wrap64 (a1_2 * (wrap64 (a2_1 * t601)))) + (wrap64 (a1_3 * t600)))))).heap[gb603]? = some (.cells #[.int .i64 (wrap64 ((wrap64 (a1_0 * (wrap64 (a2_1 * t601)))) + (wrap64 (a1_1 * t600)))), .int .i64 (wrap64 ((wrap64 (a1_2 * (wrap64 (a2_1 * t601)))) + (wrap64 (a1_3 * t600))))] 22 (0, 0))) := ⟨by (with_reducible repeat (first | refine blk_drewN ?_ _ | refine blk_drew ?_ | refine blk_alloc ?_ _)); refine blk_put (cs := #[.int .i64 (wrap64 ((wrap64 (a1_0 * (wrap64 (a2_1 * t601)))) + (wrap64 (a1_1 * t600)))), .int .i64 0]) ?_ 1 _ rfl; (with_reducible repeat (first | refine blk_drewN ?_ _ | refine blk_drew ?_ | refine blk_alloc ?_ _)); refine blk_put (cs := #[.int .i64 0, .int .i64 0]) ?_ 0 _ rfl; (with_reducible repeat (first | refine blk_drewN ?_ _ | refine blk_drew ?_ | refine blk_alloc ?_ _)); exact BK603.out⟩
        have n5_ : Aside0 (Below w.heap.size w ((w24.setCell ⟨gb603, 0, none⟩ (.int .i64 (wrap64 ((wrap64 (a1_0 * (wrap64 (a2_1 * t601)))) + (wrap64 (a1_1 * t600)))))).setCell ⟨gb603, 1, none⟩ (.int .i64 (wrap64 ((wrap64 (a1_2 * (wrap64 (a2_1 * t601)))) + (wrap64 (a1_3 * t600))))))) := ⟨blA⟩
        (try clear BK596)
        (try clear BK597)
        (try clear BK598)
        (try clear BK602)
        (try clear BK603)
        (try clear HB)
        generalize ((w24.setCell ⟨gb603, 0, none⟩ (.int .i64 (wrap64 ((wrap64 (a1_0 * (wrap64 (a2_1 * t601)))) + (wrap64 (a1_1 * t600)))))).setCell ⟨gb603, 1, none⟩ (.int .i64 (wrap64 ((wrap64 (a1_2 * (wrap64 (a2_1 * t601)))) + (wrap64 (a1_3 * t600)))))) = w38 at n0_ n1_ n2_ n3_ n4_ n5_ ⊢
        have BK596 := n0_
        have BK597 := n1_
        have BK598 := n2_
        have BK602 := n3_
        have BK603 := n4_
        have HB := n5_
        clear n0_ n1_ n2_ n3_ n4_ n5_
        have n0_ := Aside0.mk (blk_drew BK596.out)
        have n1_ := Aside0.mk (blk_drew BK597.out)
        have n2_ := Aside0.mk (blk_drew BK598.out)
        have n3_ := Aside0.mk (blk_drew BK602.out)
        have n4_ := Aside0.mk (blk_drew BK603.out)
        have n5_ := Aside0.mk (below_drew1 HB.out)
        clear BK596
        clear BK597
        clear BK598
        clear BK602
        clear BK603
        clear HB
        have BK596 := n0_
        have BK597 := n1_
        have BK598 := n2_
        have BK602 := n3_
        have BK603 := n4_
        have HB := n5_
        clear n0_ n1_ n2_ n3_ n4_ n5_
        refine start_ (n := 19) (S := fun w' => w'.cell? ⟨gb603, 0, none⟩ = some (.int .i64 (wrap64 ((wrap64 (a1_0 * (wrap64 (a2_1 * t601)))) + (wrap64 (a1_1 * t600))))) ∧ w'.cell? ⟨gb603, 1, none⟩ = some (.int .i64 (wrap64 ((wrap64 (a1_2 * (wrap64 (a2_1 * t601)))) + (wrap64 (a1_3 * t600))))) ∧ w'.cell? ⟨gb602, 0, none⟩ = some (.int .i64 (wrap64 (a1_0 * t599))) ∧ w'.cell? ⟨gb602, 1, none⟩ = some (.int .i64 (wrap64 (a1_2 * t599)))) (ds := []) #[false, false, false, false, false, false, false, false, false, false, false, false, false, false, false, false, false, false, false] (by kernel_rfl) rfl rfl ⟨(blk_cell BK603.out 0).trans rfl, (blk_cell BK603.out 1).trans rfl, (blk_cell BK602.out 0).trans rfl, (blk_cell BK602.out 1).trans rfl⟩ (fun hHeld => ?_); refine with_tabW spec_l04Move.tab6 spec_l04Move.bits6 (fun HT_ HW_ => ?_)
        generalize w38.drew = w39 at BK596 BK597 BK598 BK602 BK603 HB hHeld ⊢
        refine pure_ (i := 0) (N := some 73) (v := ?_) (a' := ?_) #[true, false, false, false, false, false, false, false, false, false, false, false, false, false, false, false, false, false, false] rfl rfl (any_of HT_.out (by kernel_rfl)) (fun _ _ _ h => h) (Or.inl ⟨by rfl, ?_⟩) ?_ ?_
        rotate_left
        · intro w'
          go_simp
          with_reducible rfl
        rotate_left
        · simp only [Act.put, List.setIfInBounds_toArray, List.set_cons_zero, List.set_cons_succ, i64_w, i32_w]
          rfl
        refine take_ (i := 1) (N := some 74) (v := ?_) (a' := ?_) #[true, true, false, false, false, false, false, false, false, false, false, false, false, false, false, false, false, false, false] rfl rfl (take_ofW HT_.out HW_.out (by kernel_rfl)) (fun _ _ _ h => h) (Or.inl ⟨by rfl, ?_⟩) hHeld ?_ ?_
        rotate_left
        · rintro w' ⟨s0, s1, s2, s3⟩
          go_simp
          with_reducible rfl
        rotate_left
        · simp only [Act.put, List.setIfInBounds_toArray, List.set_cons_zero, List.set_cons_succ, i64_w, i32_w]
          rfl
        refine pure_ (i := 2) (N := some 75) (v := ?_) (a' := ?_) #[true, true, true, false, false, false, false, false, false, false, false, false, false, false, false, false, false, false, false] rfl rfl (any_of HT_.out (by kernel_rfl)) (fun _ _ _ h => h) (Or.inl ⟨by rfl, ?_⟩) ?_ ?_
        rotate_left
        · intro w'
          go_simp
          with_reducible rfl
        rotate_left
        · simp only [Act.put, List.setIfInBounds_toArray, List.set_cons_zero, List.set_cons_succ, i64_w, i32_w]
          rfl
        refine pure_ (i := 3) (N := some 76) (v := ?_) (a' := ?_) #[true, true, true, true, false, false, false, false, false, false, false, false, false, false, false, false, false, false, false] rfl rfl (any_of HT_.out (by kernel_rfl)) (fun _ _ _ h => h) (Or.inl ⟨by rfl, ?_⟩) ?_ ?_
        rotate_left
        · intro w'
          go_simp
          with_reducible rfl
        rotate_left
        · simp only [Act.put, List.setIfInBounds_toArray, List.set_cons_zero, List.set_cons_succ, i64_w, i32_w]
          rfl
        refine pure_ (i := 4) (N := some 77) (v := ?_) (a' := ?_) #[true, true, true, true, true, false, false, false, false, false, false, false, false, false, false, false, false, false, false] rfl rfl (any_of HT_.out (by kernel_rfl)) (fun _ _ _ h => h) (Or.inl ⟨by rfl, ?_⟩) ?_ ?_
        rotate_left
        · intro w'
          go_simp
          with_reducible rfl
        rotate_left
        · simp only [Act.put, List.setIfInBounds_toArray, List.set_cons_zero, List.set_cons_succ, i64_w, i32_w]
          rfl
        refine take_ (i := 5) (N := some 78) (v := ?_) (a' := ?_) #[true, true, true, true, true, true, false, false, false, false, false, false, false, false, false, false, false, false, false] rfl rfl (take_ofW HT_.out HW_.out (by kernel_rfl)) (fun _ _ _ h => h) (Or.inl ⟨by rfl, ?_⟩) hHeld ?_ ?_
        rotate_left
        · rintro w' ⟨s0, s1, s2, s3⟩
          go_simp
          with_reducible rfl
        rotate_left
        · simp only [Act.put, List.setIfInBounds_toArray, List.set_cons_zero, List.set_cons_succ, i64_w, i32_w]
          rfl
        refine pure_ (i := 6) (N := some 79) (v := ?_) (a' := ?_) #[true, true, true, true, true, true, true, false, false, false, false, false, false, false, false, false, false, false, false] rfl rfl (any_of HT_.out (by kernel_rfl)) (fun _ _ _ h => h) (Or.inl ⟨by rfl, ?_⟩) ?_ ?_
        rotate_left
        · intro w'
          go_simp
          with_reducible rfl
        rotate_left
        · simp only [Act.put, List.setIfInBounds_toArray, List.set_cons_zero, List.set_cons_succ, i64_w, i32_w]
          rfl
        refine pure_ (i := 7) (N := some 80) (v := ?_) (a' := ?_) #[true, true, true, true, true, true, true, true, false, false, false, false, false, false, false, false, false, false, false] rfl rfl (any_of HT_.out (by kernel_rfl)) (fun _ _ _ h => h) (Or.inl ⟨by rfl, ?_⟩) ?_ ?_
        rotate_left
        · intro w'
          go_simp
          with_reducible rfl
        rotate_left
        · simp only [Act.put, List.setIfInBounds_toArray, List.set_cons_zero, List.set_cons_succ, i64_w, i32_w]
          rfl
        refine pure_ (i := 8) (N := some 81) (v := ?_) (a' := ?_) #[true, true, true, true, true, true, true, true, true, false, false, false, false, false, false, false, false, false, false] rfl rfl (any_of HT_.out (by kernel_rfl)) (fun _ _ _ h => h) (Or.inl ⟨by rfl, ?_⟩) ?_ ?_
        rotate_left
        · intro w'
          go_simp
          with_reducible rfl
        rotate_left
        · simp only [Act.put, List.setIfInBounds_toArray, List.set_cons_zero, List.set_cons_succ, i64_w, i32_w]
          rfl
        refine pure_ (i := 9) (N := some 82) (v := ?_) (a' := ?_) #[true, true, true, true, true, true, true, true, true, true, false, false, false, false, false, false, false, false, false] rfl rfl (any_of HT_.out (by kernel_rfl)) (fun _ _ _ h => h) (Or.inl ⟨by rfl, ?_⟩) ?_ ?_
        rotate_left
        · intro w'
          go_simp
          with_reducible rfl
        rotate_left
        · simp only [Act.put, List.setIfInBounds_toArray, List.set_cons_zero, List.set_cons_succ, i64_w, i32_w]
          rfl
        refine pure_ (i := 12) (N := some 85) (v := ?_) (a' := ?_) #[true, true, true, true, true, true, true, true, true, true, false, false, true, false, false, false, false, false, false] rfl rfl (any_of HT_.out (by kernel_rfl)) (fun _ _ _ h => h) (Or.inl ⟨by rfl, ?_⟩) ?_ ?_
        rotate_left
        · intro w'
          go_simp
          with_reducible rfl
        rotate_left
        · simp only [Act.put, List.setIfInBounds_toArray, List.set_cons_zero, List.set_cons_succ, i64_w, i32_w]
          rfl
        refine pure_ (i := 13) (N := some 86) (v := ?_) (a' := ?_) #[true, true, true, true, true, true, true, true, true, true, false, false, true, true, false, false, false, false, false] rfl rfl (any_of HT_.out (by kernel_rfl)) (fun _ _ _ h => h) (Or.inl ⟨by rfl, ?_⟩) ?_ ?_
        rotate_left
        · intro w'
          go_simp
          with_reducible rfl
        rotate_left
        · simp only [Act.put, List.setIfInBounds_toArray, List.set_cons_zero, List.set_cons_succ, i64_w, i32_w]
          rfl
        refine take_ (i := 10) (N := some 83) (v := ?_) (a' := ?_) #[true, true, true, true, true, true, true, true, true, true, true, false, true, true, false, false, false, false, false] rfl rfl (take_ofW HT_.out HW_.out (by kernel_rfl)) (fun _ _ _ h => h) (Or.inl ⟨by rfl, ?_⟩) hHeld ?_ ?_
        rotate_left
        · rintro w' ⟨s0, s1, s2, s3⟩
          go_simp
          with_reducible rfl
        rotate_left
        · simp only [Act.put, List.setIfInBounds_toArray, List.set_cons_zero, List.set_cons_succ, i64_w, i32_w]
          rfl
        refine take_ (i := 14) (N := some 87) (v := ?_) (a' := ?_) #[true, true, true, true, true, true, true, true, true, true, true, false, true, true, true, false, false, false, false] rfl rfl (take_ofW HT_.out HW_.out (by kernel_rfl)) (fun _ _ _ h => h) (Or.inl ⟨by rfl, ?_⟩) hHeld ?_ ?_
        rotate_left
        · rintro w' ⟨s0, s1, s2, s3⟩
          go_simp
          with_reducible rfl
        rotate_left
        · simp only [Act.put, List.setIfInBounds_toArray, List.set_cons_zero, List.set_cons_succ, i64_w, i32_w]
          rfl
        refine one_ (i := 11) (N := some 84) #[true, true, true, true, true, true, true, true, true, true, true, true, true, true, true, false, false, false, false] rfl rfl (one_of HT_.out (by kernel_rfl)) (by decide) (fun K hK => ?_)
        refine goes_ Try.func89 (by kernel_rfl) rfl #[.int .i64 a0, .int .i64 (wrap64 ((wrap64 (a1_2 * (wrap64 (a2_1 * t601)))) + (wrap64 (a1_3 * t600))))] (by rfl) rfl rfl (by (try simp only [List.map_toArray, List.map_cons, List.map_nil]); first | done | rfl | (simp only [List.length_drop, List.length_take]; rfl)) ?_
        with_reducible refine (spec_l01Val.calls k a0 (wrap64 ((wrap64 (a1_2 * (wrap64 (a2_1 * t601)))) + (wrap64 (a1_3 * t600)))) t604 _ A36.out).mono ?_
        rintro e w' ⟨rfl, ⟨nd, rfl⟩⟩
        refine ⟨_, rfl, ?_⟩
        refine hK.out _ _ ⟨(blk_cell BK603.out 0).trans rfl, (blk_cell BK603.out 1).trans rfl, (blk_cell BK602.out 0).trans rfl, (blk_cell BK602.out 1).trans rfl⟩ (fun hHeld => ?_)
        clear hK K
        refine norm_ (a' := ?_) ?_ ?_
        rotate_left
        · show Act.put _ (some 84) _ = _
          simp only [Act.put, List.setIfInBounds_toArray, List.set_cons_zero, List.set_cons_succ, i64_w, i32_w]
          rfl
        refine one_ (i := 15) (N := some 88) #[true, true, true, true, true, true, true, true, true, true, true, true, true, true, true, true, false, false, false] rfl rfl (one_of HT_.out (by kernel_rfl)) (by decide) (fun K hK => ?_)
        refine goes_ Try.func89 (by kernel_rfl) rfl #[.int .i64 a0, .int .i64 (wrap64 (a1_2 * t599))] (by rfl) rfl rfl (by (try simp only [List.map_toArray, List.map_cons, List.map_nil]); first | done | rfl | (simp only [List.length_drop, List.length_take]; rfl)) ?_
        with_reducible refine (spec_l01Val.calls k a0 (wrap64 (a1_2 * t599)) t605 _ A37.out).mono ?_
        rintro e w' ⟨rfl, ⟨nd, rfl⟩⟩
        refine ⟨_, rfl, ?_⟩
        refine hK.out _ _ ⟨(blk_cell BK603.out 0).trans rfl, (blk_cell BK603.out 1).trans rfl, (blk_cell BK602.out 0).trans rfl, (blk_cell BK602.out 1).trans rfl⟩ (fun hHeld => ?_)
        clear hK K
        refine norm_ (a' := ?_) ?_ ?_
        rotate_left
        · show Act.put _ (some 88) _ = _
          simp only [Act.put, List.setIfInBounds_toArray, List.set_cons_zero, List.set_cons_succ, i64_w, i32_w]
          rfl
        refine pure_ (i := 16) (N := some 89) (v := ?_) (a' := ?_) #[true, true, true, true, true, true, true, true, true, true, true, true, true, true, true, true, true, false, false] rfl rfl (any_of HT_.out (by kernel_rfl)) (fun _ _ _ h => h) (Or.inl ⟨by rfl, ?_⟩) ?_ ?_
        rotate_left
        · intro w'
          go_simp
          with_reducible rfl
        rotate_left
        · simp only [Act.put, List.setIfInBounds_toArray, List.set_cons_zero, List.set_cons_succ, i64_w, i32_w]
          rfl
        refine pure_ (i := 17) (N := some 90) (v := ?_) (a' := ?_) #[true, true, true, true, true, true, true, true, true, true, true, true, true, true, true, true, true, true, false] rfl rfl (any_of HT_.out (by kernel_rfl)) (fun _ _ _ h => h) (Or.inl ⟨by rfl, ?_⟩) ?_ ?_
        rotate_left
        · intro w'
          go_simp
          with_reducible rfl
        rotate_left
        · simp only [Act.put, List.setIfInBounds_toArray, List.set_cons_zero, List.set_cons_succ, i64_w, i32_w]
          rfl
        refine pure_ (i := 18) (N := some 91) (v := ?_) (a' := ?_) #[true, true, true, true, true, true, true, true, true, true, true, true, true, true, true, true, true, true, true] rfl rfl (any_of HT_.out (by kernel_rfl)) (fun _ _ _ h => h) (Or.inl ⟨by rfl, ?_⟩) ?_ ?_
        rotate_left
        · intro w'
          go_simp
          with_reducible rfl
        rotate_left
        · simp only [Act.put, List.setIfInBounds_toArray, List.set_cons_zero, List.set_cons_succ, i64_w, i32_w]
          rfl
        refine done_ (done_of HT_.out (by kernel_rfl)) ?_
        try go_wp2
        go_meet
        case rel => exact ⟨_, (decide (t604 > t605)), (by first | rfl | (simp; done) | (simp [*]; done)), H', ⟨by first | omega | exact Nat.le_refl _⟩, ⟨bkA BK596⟩, ⟨bkA BK597⟩, ⟨bkA BK598⟩, ⟨bkA BK602⟩, ⟨bkA BK603⟩, ⟨blA⟩⟩
  case rest =>
    clear HC8
    try clear c1
    try clear c2
    try clear p2
    try clear c3
    try clear p6
    try clear c8
    try clear c9
    try clear c16
    try clear c19
    try clear c20
    try clear c21
    try clear c25
    try clear c26
    try clear c27
    try clear c28
    try clear c30
    try clear c30b0
    try clear c30b1
    try clear c33
    try clear c33b0
    try clear c33b1
    try clear hcz17_0
    try clear hcz17_1
    try clear hcz17_2
    try clear hcz17_3
    try clear hcz22_0
    try clear hcz22_1
    try clear hcz23_0
    try clear hcz23_1
    try clear hcz23_2
    try clear hcz23_3
    try clear hcz29_0
    try clear hcz29_1
    try clear hfz17_0
    try clear hfz17_1
    try clear hfz17_2
    try clear hfz17_3
    try clear hfz22_0
    try clear hfz22_1
    try clear hfz23_0
    try clear hfz23_1
    try clear hfz23_2
    try clear hfz23_3
    try clear hfz29_0
    try clear hfz29_1
    obtain ⟨kq, x91_7, rfl, HA, HJ7, BK596, BK597, BK598, BK602, BK603, HB⟩ := hcut
    cases kq with
    | zero => exact absurd HA.out (by simp [spec_l04Move.j0])
    | succ kj7 =>
      have H := HA.out
      clear HA
      simp only [spec_l04Move.j0] at H
      have HC40 := Aside0.mk H
      clear H
      go_upto_if 91 with (fail)
      go_cut [] (fun wc => ∃ (kq : Nat) (x604000_39 : Int) (x604001_39 : Int), Aside0 (spec_l04Move.j1 kq a0 ji4 a1_0 a1_1 a1_2 a1_3 a2_0 a2_1 a2_2 x604000_39 x604001_39 = some (r1, r2, r3, r4)) ∧ Aside0 (kq ≤ kj7) ∧ Aside0 (wc.heap[gb596]? = some (.cells #[.int .i64 a1_0, .int .i64 a1_1, .int .i64 a1_2, .int .i64 a1_3] 25 (0, 0))) ∧ Aside0 (wc.heap[gb597]? = some (.cells #[.int .i64 a2_0, .int .i64 a2_1, .int .i64 a2_2] 55 (0, 0))) ∧ Aside0 (wc.heap[gb598]? = some (.cells #[.int .i64 0, .int .i64 0, .int .i64 0] 55 (0, 0))) ∧ Aside0 (wc.heap[gb602]? = some (.cells #[.int .i64 (wrap64 (a1_0 * t599)), .int .i64 (wrap64 (a1_2 * t599))] 22 (0, 0))) ∧ Aside0 (wc.heap[gb603]? = some (.cells #[.int .i64 x604000_39, .int .i64 x604001_39] 22 (0, 0))) ∧ Aside0 (Below w.heap.size w wc))
      case first =>
        have H := HC40.out
        clear HC40
        by_cases c41 : x91_7 = true
        · subst c41
          have H1 : (spec_l04Move.j1 kj7 a0 ji4 a1_0 a1_1 a1_2 a1_3 a2_0 a2_1 a2_2 (wrap64 (a1_0 * t599)) (wrap64 (a1_2 * t599))) = some (r1, r2, r3, r4) := by rw [if_pos rfl] at H; exact H
          clear H
          have H := H1
          clear H1
          have H' := Aside0.mk H
          clear H
          have hnb42 := NB602_596.out
          have hnc42 := NB596_602.out
          have hnb43 := NB602_597.out
          have hnc43 := NB597_602.out
          have hnb44 := NB602_598.out
          have hnc44 := NB598_602.out
          have hnb45 := NB602_603.out
          have hnc45 := NB603_602.out
          have hcz46_0 : wc.cell? ⟨gb602, 0, none⟩ = some (.int .i64 (wrap64 (a1_0 * t599))) := (blk_cell BK602.out 0).trans rfl
          have hcz46_1 : wc.cell? ⟨gb602, 1, none⟩ = some (.int .i64 (wrap64 (a1_2 * t599))) := (blk_cell BK602.out 1).trans rfl
          have hfz46_0 := blk_frozen BK602.out 0
          have hfz46_1 := blk_frozen BK602.out 1
          have hnb47 := NB603_596.out
          have hnc47 := NB596_603.out
          have hnb48 := NB603_597.out
          have hnc48 := NB597_603.out
          have hnb49 := NB603_598.out
          have hnc49 := NB598_603.out
          have hcz50_0 : wc.cell? ⟨gb603, 0, none⟩ = some (.int .i64 (wrap64 ((wrap64 (a1_0 * (wrap64 (a2_1 * t601)))) + (wrap64 (a1_1 * t600))))) := (blk_cell BK603.out 0).trans rfl
          have hcz50_1 : wc.cell? ⟨gb603, 1, none⟩ = some (.int .i64 (wrap64 ((wrap64 (a1_2 * (wrap64 (a2_1 * t601)))) + (wrap64 (a1_3 * t600))))) := (blk_cell BK603.out 1).trans rfl
          have hfz50_0 := blk_frozen BK603.out 0
          have hfz50_1 := blk_frozen BK603.out 1
          go_wp2
          go_meet
          case rel => exact ⟨_, ((wrap64 (a1_0 * t599))), ((wrap64 (a1_2 * t599))), H', ⟨by have := HJ7.out; first | omega | exact Nat.le_refl _⟩, ⟨by (with_reducible repeat (first | refine blk_drewN ?_ _ | refine blk_drew ?_ | refine blk_alloc ?_ _)); refine blk_far ?_ NB596_603.out _; (with_reducible repeat (first | refine blk_drewN ?_ _ | refine blk_drew ?_ | refine blk_alloc ?_ _)); refine blk_far ?_ NB596_603.out _; (with_reducible repeat (first | refine blk_drewN ?_ _ | refine blk_drew ?_ | refine blk_alloc ?_ _)); exact BK596.out⟩, ⟨by (with_reducible repeat (first | refine blk_drewN ?_ _ | refine blk_drew ?_ | refine blk_alloc ?_ _)); refine blk_far ?_ NB597_603.out _; (with_reducible repeat (first | refine blk_drewN ?_ _ | refine blk_drew ?_ | refine blk_alloc ?_ _)); refine blk_far ?_ NB597_603.out _; (with_reducible repeat (first | refine blk_drewN ?_ _ | refine blk_drew ?_ | refine blk_alloc ?_ _)); exact BK597.out⟩, ⟨by (with_reducible repeat (first | refine blk_drewN ?_ _ | refine blk_drew ?_ | refine blk_alloc ?_ _)); refine blk_far ?_ NB598_603.out _; (with_reducible repeat (first | refine blk_drewN ?_ _ | refine blk_drew ?_ | refine blk_alloc ?_ _)); refine blk_far ?_ NB598_603.out _; (with_reducible repeat (first | refine blk_drewN ?_ _ | refine blk_drew ?_ | refine blk_alloc ?_ _)); exact BK598.out⟩, ⟨by (with_reducible repeat (first | refine blk_drewN ?_ _ | refine blk_drew ?_ | refine blk_alloc ?_ _)); refine blk_far ?_ NB602_603.out _; (with_reducible repeat (first | refine blk_drewN ?_ _ | refine blk_drew ?_ | refine blk_alloc ?_ _)); refine blk_far ?_ NB602_603.out _; (with_reducible repeat (first | refine blk_drewN ?_ _ | refine blk_drew ?_ | refine blk_alloc ?_ _)); exact BK602.out⟩, ⟨by (with_reducible repeat (first | refine blk_drewN ?_ _ | refine blk_drew ?_ | refine blk_alloc ?_ _)); refine blk_put (cs := #[.int .i64 (wrap64 (a1_0 * t599)), .int .i64 (wrap64 ((wrap64 (a1_2 * (wrap64 (a2_1 * t601)))) + (wrap64 (a1_3 * t600))))]) ?_ 1 _ rfl; (with_reducible repeat (first | refine blk_drewN ?_ _ | refine blk_drew ?_ | refine blk_alloc ?_ _)); refine blk_put (cs := #[.int .i64 (wrap64 ((wrap64 (a1_0 * (wrap64 (a2_1 * t601)))) + (wrap64 (a1_1 * t600)))), .int .i64 (wrap64 ((wrap64 (a1_2 * (wrap64 (a2_1 * t601)))) + (wrap64 (a1_3 * t600))))]) ?_ 0 _ rfl; (with_reducible repeat (first | refine blk_drewN ?_ _ | refine blk_drew ?_ | refine blk_alloc ?_ _)); exact BK603.out⟩, ⟨blA⟩⟩
        · replace c41 := Bool.eq_false_iff.mpr c41
          subst c41
          have H1 : (spec_l04Move.j1 kj7 a0 ji4 a1_0 a1_1 a1_2 a1_3 a2_0 a2_1 a2_2 (wrap64 ((wrap64 (a1_0 * (wrap64 (a2_1 * t601)))) + (wrap64 (a1_1 * t600)))) (wrap64 ((wrap64 (a1_2 * (wrap64 (a2_1 * t601)))) + (wrap64 (a1_3 * t600))))) = some (r1, r2, r3, r4) := by rw [if_neg (show ¬ (false = true) by decide)] at H; exact H
          clear H
          have H := H1
          clear H1
          have H' := Aside0.mk H
          clear H
          go_wp2
          go_meet
          case rel => exact ⟨_, ((wrap64 ((wrap64 (a1_0 * (wrap64 (a2_1 * t601)))) + (wrap64 (a1_1 * t600))))), ((wrap64 ((wrap64 (a1_2 * (wrap64 (a2_1 * t601)))) + (wrap64 (a1_3 * t600))))), H', ⟨by have := HJ7.out; first | omega | exact Nat.le_refl _⟩, ⟨bkA BK596⟩, ⟨bkA BK597⟩, ⟨bkA BK598⟩, ⟨bkA BK602⟩, ⟨bkA BK603⟩, ⟨blA⟩⟩
      case rest =>
        clear HC40
        try clear c1
        try clear c2
        try clear p2
        try clear c3
        try clear c4
        try clear p6
        try clear c8
        try clear c9
        try clear c16
        try clear c19
        try clear c20
        try clear c21
        try clear c25
        try clear c26
        try clear c27
        try clear c28
        try clear c30
        try clear c30b0
        try clear c30b1
        try clear c33
        try clear c33b0
        try clear c33b1
        try clear c41
        try clear c42
        try clear c43
        try clear c44
        try clear c45
        try clear c47
        try clear c48
        try clear c49
        try clear hcz17_0
        try clear hcz17_1
        try clear hcz17_2
        try clear hcz17_3
        try clear hcz22_0
        try clear hcz22_1
        try clear hcz23_0
        try clear hcz23_1
        try clear hcz23_2
        try clear hcz23_3
        try clear hcz29_0
        try clear hcz29_1
        try clear hcz46_0
        try clear hcz46_1
        try clear hcz50_0
        try clear hcz50_1
        try clear hfz17_0
        try clear hfz17_1
        try clear hfz17_2
        try clear hfz17_3
        try clear hfz22_0
        try clear hfz22_1
        try clear hfz23_0
        try clear hfz23_1
        try clear hfz23_2
        try clear hfz23_3
        try clear hfz29_0
        try clear hfz29_1
        try clear hfz46_0
        try clear hfz46_1
        try clear hfz50_0
        try clear hfz50_1
        try clear p2
        try clear p6
        obtain ⟨kq, x604000_39, x604001_39, HA, HJ39, BK596, BK597, BK598, BK602, BK603, HB⟩ := hcut
        cases kq with
        | zero => exact absurd HA.out (by simp [spec_l04Move.j1])
        | succ kj39 =>
          have H := HA.out
          clear HA
          simp only [spec_l04Move.j1] at H
          replace H := Option.bind_eq_some_iff.mp H
          obtain ⟨t606, A510, H⟩ := H
          replace H : ((spec_l01Val.f kj39 a0 t606).bind fun t607 => ((spec_l01Val.f kj39 a0 x604001_39).bind fun t608 => ((spec_l01Of.f kj39 a0 x604000_39 x604001_39 (wrap64 ((wrap64 ((wrap64 (t607 + a2_0)) + (wrap64 (2 * ji4)))) - (wrap64 (2 * t608))))).bind fun bt609 => (some (bt609.1, bt609.2.1, bt609.2.2.1, bt609.2.2.2))))) = some (r1, r2, r3, r4) := H
          have A51 := Aside0.mk A510
          clear A510
          replace H := Option.bind_eq_some_iff.mp H
          obtain ⟨t607, A520, H⟩ := H
          replace H : ((spec_l01Val.f kj39 a0 x604001_39).bind fun t608 => ((spec_l01Of.f kj39 a0 x604000_39 x604001_39 (wrap64 ((wrap64 ((wrap64 (t607 + a2_0)) + (wrap64 (2 * ji4)))) - (wrap64 (2 * t608))))).bind fun bt609 => (some (bt609.1, bt609.2.1, bt609.2.2.1, bt609.2.2.2)))) = some (r1, r2, r3, r4) := H
          have A52 := Aside0.mk A520
          clear A520
          replace H := Option.bind_eq_some_iff.mp H
          obtain ⟨t608, A530, H⟩ := H
          replace H : ((spec_l01Of.f kj39 a0 x604000_39 x604001_39 (wrap64 ((wrap64 ((wrap64 (t607 + a2_0)) + (wrap64 (2 * ji4)))) - (wrap64 (2 * t608))))).bind fun bt609 => (some (bt609.1, bt609.2.1, bt609.2.2.1, bt609.2.2.2))) = some (r1, r2, r3, r4) := H
          have A53 := Aside0.mk A530
          clear A530
          replace H := Option.bind_eq_some_iff.mp H
          obtain ⟨⟨t609, t610, t611, t612⟩, A540, H⟩ := H
          replace H : (some (t609, t610, t611, t612)) = some (r1, r2, r3, r4) := H
          have A54 := Aside0.mk A540
          clear A540
          simp only [Option.some.injEq, Prod.mk.injEq] at H
          obtain ⟨rfl, rfl, rfl, rfl⟩ := H
          try go_wp2
          have n0_ := Aside0.mk (blk_drew BK596.out)
          have n1_ := Aside0.mk (blk_drew BK597.out)
          have n2_ := Aside0.mk (blk_drew BK598.out)
          have n3_ := Aside0.mk (blk_drew BK602.out)
          have n4_ := Aside0.mk (blk_drew BK603.out)
          have n5_ := Aside0.mk (below_drew1 HB.out)
          clear BK596
          clear BK597
          clear BK598
          clear BK602
          clear BK603
          clear HB
          have BK596 := n0_
          have BK597 := n1_
          have BK598 := n2_
          have BK602 := n3_
          have BK603 := n4_
          have HB := n5_
          clear n0_ n1_ n2_ n3_ n4_ n5_
          refine start_ (n := 17) (S := fun w' => w'.cell? ⟨gb596, 0, none⟩ = some (.int .i64 a1_0) ∧ w'.cell? ⟨gb596, 1, none⟩ = some (.int .i64 a1_1) ∧ w'.cell? ⟨gb596, 2, none⟩ = some (.int .i64 a1_2) ∧ w'.cell? ⟨gb596, 3, none⟩ = some (.int .i64 a1_3) ∧ w'.cell? ⟨gb597, 0, none⟩ = some (.int .i64 a2_0) ∧ w'.cell? ⟨gb597, 1, none⟩ = some (.int .i64 a2_1) ∧ w'.cell? ⟨gb597, 2, none⟩ = some (.int .i64 a2_2) ∧ w'.cell? ⟨gb603, 0, none⟩ = some (.int .i64 x604000_39) ∧ w'.cell? ⟨gb603, 1, none⟩ = some (.int .i64 x604001_39)) (ds := []) #[false, false, false, false, false, false, false, false, false, false, false, false, false, false, false, false, false] (by kernel_rfl) rfl rfl ⟨(blk_cell BK596.out 0).trans rfl, (blk_cell BK596.out 1).trans rfl, (blk_cell BK596.out 2).trans rfl, (blk_cell BK596.out 3).trans rfl, (blk_cell BK597.out 0).trans rfl, (blk_cell BK597.out 1).trans rfl, (blk_cell BK597.out 2).trans rfl, (blk_cell BK603.out 0).trans rfl, (blk_cell BK603.out 1).trans rfl⟩ (fun hHeld => ?_); refine with_tabW spec_l04Move.tab8 spec_l04Move.bits8 (fun HT_ HW_ => ?_)
          generalize wc.drew = w55 at BK596 BK597 BK598 BK602 BK603 HB hHeld ⊢
          refine pure_ (i := 0) (N := some 93) (v := ?_) (a' := ?_) #[true, false, false, false, false, false, false, false, false, false, false, false, false, false, false, false, false] rfl rfl (any_of HT_.out (by kernel_rfl)) (fun _ _ _ h => h) (Or.inl ⟨by rfl, ?_⟩) ?_ ?_
          rotate_left
          · intro w'
            go_simp
            with_reducible rfl
          rotate_left
          · simp only [Act.put, List.setIfInBounds_toArray, List.set_cons_zero, List.set_cons_succ, i64_w, i32_w]
            rfl
          refine pure_ (i := 4) (N := some 97) (v := ?_) (a' := ?_) #[true, false, false, false, true, false, false, false, false, false, false, false, false, false, false, false, false] rfl rfl (any_of HT_.out (by kernel_rfl)) (fun _ _ _ h => h) (Or.inl ⟨by rfl, ?_⟩) ?_ ?_
          rotate_left
          · intro w'
            go_simp
            with_reducible rfl
          rotate_left
          · simp only [Act.put, List.setIfInBounds_toArray, List.set_cons_zero, List.set_cons_succ, i64_w, i32_w]
            rfl
          refine pure_ (i := 7) (N := some 100) (v := ?_) (a' := ?_) #[true, false, false, false, true, false, false, true, false, false, false, false, false, false, false, false, false] rfl rfl (any_of HT_.out (by kernel_rfl)) (fun _ _ _ h => h) (Or.inl ⟨by rfl, ?_⟩) ?_ ?_
          rotate_left
          · intro w'
            go_simp
            with_reducible rfl
          rotate_left
          · simp only [Act.put, List.setIfInBounds_toArray, List.set_cons_zero, List.set_cons_succ, i64_w, i32_w]
            rfl
          refine pure_ (i := 8) (N := some 101) (v := ?_) (a' := ?_) #[true, false, false, false, true, false, false, true, true, false, false, false, false, false, false, false, false] rfl rfl (any_of HT_.out (by kernel_rfl)) (fun _ _ _ h => h) (Or.inl ⟨by rfl, ?_⟩) ?_ ?_
          rotate_left
          · intro w'
            go_simp
            with_reducible rfl
          rotate_left
          · simp only [Act.put, List.setIfInBounds_toArray, List.set_cons_zero, List.set_cons_succ, i64_w, i32_w]
            rfl
          refine pure_ (i := 10) (N := some 103) (v := ?_) (a' := ?_) #[true, false, false, false, true, false, false, true, true, false, true, false, false, false, false, false, false] rfl rfl (any_of HT_.out (by kernel_rfl)) (fun _ _ _ h => h) (Or.inl ⟨by rfl, ?_⟩) ?_ ?_
          rotate_left
          · intro w'
            go_simp
            with_reducible rfl
          rotate_left
          · simp only [Act.put, List.setIfInBounds_toArray, List.set_cons_zero, List.set_cons_succ, i64_w, i32_w]
            rfl
          refine pure_ (i := 11) (N := some 104) (v := ?_) (a' := ?_) #[true, false, false, false, true, false, false, true, true, false, true, true, false, false, false, false, false] rfl rfl (any_of HT_.out (by kernel_rfl)) (fun _ _ _ h => h) (Or.inl ⟨by rfl, ?_⟩) ?_ ?_
          rotate_left
          · intro w'
            go_simp
            with_reducible rfl
          rotate_left
          · simp only [Act.put, List.setIfInBounds_toArray, List.set_cons_zero, List.set_cons_succ, i64_w, i32_w]
            rfl
          refine take_ (i := 1) (N := some 94) (v := ?_) (a' := ?_) #[true, true, false, false, true, false, false, true, true, false, true, true, false, false, false, false, false] rfl rfl (take_ofW HT_.out HW_.out (by kernel_rfl)) (fun _ _ _ h => h) (Or.inl ⟨by rfl, ?_⟩) hHeld ?_ ?_
          rotate_left
          · rintro w' ⟨s0, s1, s2, s3, s4, s5, s6, s7, s8⟩
            go_simp
            with_reducible rfl
          rotate_left
          · simp only [Act.put, List.setIfInBounds_toArray, List.set_cons_zero, List.set_cons_succ, i64_w, i32_w]
            rfl
          refine take_ (i := 5) (N := some 98) (v := ?_) (a' := ?_) #[true, true, false, false, true, true, false, true, true, false, true, true, false, false, false, false, false] rfl rfl (take_ofW HT_.out HW_.out (by kernel_rfl)) (fun _ _ _ h => h) (Or.inl ⟨by rfl, ?_⟩) hHeld ?_ ?_
          rotate_left
          · rintro w' ⟨s0, s1, s2, s3, s4, s5, s6, s7, s8⟩
            go_simp
            with_reducible rfl
          rotate_left
          · simp only [Act.put, List.setIfInBounds_toArray, List.set_cons_zero, List.set_cons_succ, i64_w, i32_w]
            rfl
          refine take_ (i := 12) (N := some 105) (v := ?_) (a' := ?_) #[true, true, false, false, true, true, false, true, true, false, true, true, true, false, false, false, false] rfl rfl (take_ofW HT_.out HW_.out (by kernel_rfl)) (fun _ _ _ h => h) (Or.inl ⟨by rfl, ?_⟩) hHeld ?_ ?_
          rotate_left
          · rintro w' ⟨s0, s1, s2, s3, s4, s5, s6, s7, s8⟩
            go_simp
            with_reducible rfl
          rotate_left
          · simp only [Act.put, List.setIfInBounds_toArray, List.set_cons_zero, List.set_cons_succ, i64_w, i32_w]
            rfl
          refine one_ (i := 2) (N := some 95) #[true, true, true, false, true, true, false, true, true, false, true, true, true, false, false, false, false] rfl rfl (one_of HT_.out (by kernel_rfl)) (by decide) (fun K hK => ?_)
          refine goes_ Try.func86 (by kernel_rfl) rfl #[.agg #[.int .i64 a1_0, .int .i64 a1_1, .int .i64 a1_2, .int .i64 a1_3]] (by rfl) rfl rfl (by (try simp only [List.map_toArray, List.map_cons, List.map_nil]); first | done | rfl | (simp only [List.length_drop, List.length_take]; rfl)) ?_
          with_reducible refine (spec_l04Det.calls a1_0 a1_1 a1_2 a1_3 t606 _ A51.out).mono ?_
          rintro e w56 ⟨rfl, hb⟩
          refine ⟨_, rfl, ?_⟩
          have n0_ := Aside0.mk (blk_below (bkA BK596) hb)
          have n1_ := Aside0.mk (blk_below (bkA BK597) hb)
          have n2_ := Aside0.mk (blk_below (bkA BK598) hb)
          have n3_ := Aside0.mk (blk_below (bkA BK602) hb)
          have n4_ := Aside0.mk (blk_below (bkA BK603) hb)
          have n5_ := Aside0.mk (below_step blA hb)
          clear BK596
          clear BK597
          clear BK598
          clear BK602
          clear BK603
          clear HB
          have BK596 := n0_
          have BK597 := n1_
          have BK598 := n2_
          have BK602 := n3_
          have BK603 := n4_
          have HB := n5_
          clear n0_ n1_ n2_ n3_ n4_ n5_
          (try clear hb)
          (try clear hb2)
          (try clear hk)
          (try clear hi)
          refine hK.out _ _ ⟨(blk_cell BK596.out 0).trans rfl, (blk_cell BK596.out 1).trans rfl, (blk_cell BK596.out 2).trans rfl, (blk_cell BK596.out 3).trans rfl, (blk_cell BK597.out 0).trans rfl, (blk_cell BK597.out 1).trans rfl, (blk_cell BK597.out 2).trans rfl, (blk_cell BK603.out 0).trans rfl, (blk_cell BK603.out 1).trans rfl⟩ (fun hHeld => ?_)
          clear hK K
          refine norm_ (a' := ?_) ?_ ?_
          rotate_left
          · show Act.put _ (some 95) _ = _
            simp only [Act.put, List.setIfInBounds_toArray, List.set_cons_zero, List.set_cons_succ, i64_w, i32_w]
            rfl
          refine one_ (i := 3) (N := some 96) #[true, true, true, true, true, true, false, true, true, false, true, true, true, false, false, false, false] rfl rfl (one_of HT_.out (by kernel_rfl)) (by decide) (fun K hK => ?_)
          refine goes_ Try.func89 (by kernel_rfl) rfl #[.int .i64 a0, .int .i64 t606] (by rfl) rfl rfl (by (try simp only [List.map_toArray, List.map_cons, List.map_nil]); first | done | rfl | (simp only [List.length_drop, List.length_take]; rfl)) ?_
          with_reducible refine (spec_l01Val.calls kj39 a0 t606 t607 _ A52.out).mono ?_
          rintro e w' ⟨rfl, ⟨nd, rfl⟩⟩
          refine ⟨_, rfl, ?_⟩
          refine hK.out _ _ ⟨(blk_cell BK596.out 0).trans rfl, (blk_cell BK596.out 1).trans rfl, (blk_cell BK596.out 2).trans rfl, (blk_cell BK596.out 3).trans rfl, (blk_cell BK597.out 0).trans rfl, (blk_cell BK597.out 1).trans rfl, (blk_cell BK597.out 2).trans rfl, (blk_cell BK603.out 0).trans rfl, (blk_cell BK603.out 1).trans rfl⟩ (fun hHeld => ?_)
          clear hK K
          refine norm_ (a' := ?_) ?_ ?_
          rotate_left
          · show Act.put _ (some 96) _ = _
            simp only [Act.put, List.setIfInBounds_toArray, List.set_cons_zero, List.set_cons_succ, i64_w, i32_w]
            rfl
          refine pure_ (i := 6) (N := some 99) (v := ?_) (a' := ?_) #[true, true, true, true, true, true, true, true, true, false, true, true, true, false, false, false, false] rfl rfl (any_of HT_.out (by kernel_rfl)) (fun _ _ _ h => h) (Or.inl ⟨by rfl, ?_⟩) ?_ ?_
          rotate_left
          · intro w'
            go_simp
            with_reducible rfl
          rotate_left
          · simp only [Act.put, List.setIfInBounds_toArray, List.set_cons_zero, List.set_cons_succ, i64_w, i32_w]
            rfl
          refine pure_ (i := 9) (N := some 102) (v := ?_) (a' := ?_) #[true, true, true, true, true, true, true, true, true, true, true, true, true, false, false, false, false] rfl rfl (any_of HT_.out (by kernel_rfl)) (fun _ _ _ h => h) (Or.inl ⟨by rfl, ?_⟩) ?_ ?_
          rotate_left
          · intro w'
            go_simp
            with_reducible rfl
          rotate_left
          · simp only [Act.put, List.setIfInBounds_toArray, List.set_cons_zero, List.set_cons_succ, i64_w, i32_w]
            rfl
          refine one_ (i := 13) (N := some 106) #[true, true, true, true, true, true, true, true, true, true, true, true, true, true, false, false, false] rfl rfl (one_of HT_.out (by kernel_rfl)) (by decide) (fun K hK => ?_)
          refine goes_ Try.func89 (by kernel_rfl) rfl #[.int .i64 a0, .int .i64 x604001_39] (by rfl) rfl rfl (by (try simp only [List.map_toArray, List.map_cons, List.map_nil]); first | done | rfl | (simp only [List.length_drop, List.length_take]; rfl)) ?_
          with_reducible refine (spec_l01Val.calls kj39 a0 x604001_39 t608 _ A53.out).mono ?_
          rintro e w' ⟨rfl, ⟨nd, rfl⟩⟩
          refine ⟨_, rfl, ?_⟩
          refine hK.out _ _ ⟨(blk_cell BK596.out 0).trans rfl, (blk_cell BK596.out 1).trans rfl, (blk_cell BK596.out 2).trans rfl, (blk_cell BK596.out 3).trans rfl, (blk_cell BK597.out 0).trans rfl, (blk_cell BK597.out 1).trans rfl, (blk_cell BK597.out 2).trans rfl, (blk_cell BK603.out 0).trans rfl, (blk_cell BK603.out 1).trans rfl⟩ (fun hHeld => ?_)
          clear hK K
          refine norm_ (a' := ?_) ?_ ?_
          rotate_left
          · show Act.put _ (some 106) _ = _
            simp only [Act.put, List.setIfInBounds_toArray, List.set_cons_zero, List.set_cons_succ, i64_w, i32_w]
            rfl
          refine pure_ (i := 14) (N := some 107) (v := ?_) (a' := ?_) #[true, true, true, true, true, true, true, true, true, true, true, true, true, true, true, false, false] rfl rfl (any_of HT_.out (by kernel_rfl)) (fun _ _ _ h => h) (Or.inl ⟨by rfl, ?_⟩) ?_ ?_
          rotate_left
          · intro w'
            go_simp
            with_reducible rfl
          rotate_left
          · simp only [Act.put, List.setIfInBounds_toArray, List.set_cons_zero, List.set_cons_succ, i64_w, i32_w]
            rfl
          refine pure_ (i := 15) (N := some 108) (v := ?_) (a' := ?_) #[true, true, true, true, true, true, true, true, true, true, true, true, true, true, true, true, false] rfl rfl (any_of HT_.out (by kernel_rfl)) (fun _ _ _ h => h) (Or.inl ⟨by rfl, ?_⟩) ?_ ?_
          rotate_left
          · intro w'
            go_simp
            with_reducible rfl
          rotate_left
          · simp only [Act.put, List.setIfInBounds_toArray, List.set_cons_zero, List.set_cons_succ, i64_w, i32_w]
            rfl
          refine pure_ (i := 16) (N := some 14) (v := ?_) (a' := ?_) #[true, true, true, true, true, true, true, true, true, true, true, true, true, true, true, true, true] rfl rfl (any_of HT_.out (by kernel_rfl)) (fun _ _ _ h => h) (Or.inl ⟨by rfl, ?_⟩) ?_ ?_
          rotate_left
          · intro w'
            go_simp
            with_reducible rfl
          rotate_left
          · simp only [Act.put, List.setIfInBounds_toArray, List.set_cons_zero, List.set_cons_succ, i64_w, i32_w]
            rfl
          refine done_ (done_of HT_.out (by kernel_rfl)) ?_
          have hnb57 := NB603_596.out
          have hnc57 := NB596_603.out
          have hnb58 := NB603_597.out
          have hnc58 := NB597_603.out
          have hnb59 := NB603_598.out
          have hnc59 := NB598_603.out
          have hnb60 := NB603_602.out
          have hnc60 := NB602_603.out
          have hcz61_0 : w56.cell? ⟨gb603, 0, none⟩ = some (.int .i64 x604000_39) := (blk_cell BK603.out 0).trans rfl
          have hcz61_1 : w56.cell? ⟨gb603, 1, none⟩ = some (.int .i64 x604001_39) := (blk_cell BK603.out 1).trans rfl
          have hfz61_0 := blk_frozen BK603.out 0
          have hfz61_1 := blk_frozen BK603.out 1
          try go_wp2_with (first | ((with_reducible refine gate_callee (f := 96) rfl ?_); refine goesL_ (some 115) rfl rfl Try.func96 (by kernel_rfl) rfl #[.int .i64 a0, .int .i64 x604000_39, .int .i64 x604001_39, .int .i64 (wrap64 ((wrap64 ((wrap64 (t607 + a2_0)) + (wrap64 (2 * ji4)))) - (wrap64 (2 * t608))))] rfl (by (try simp only [List.map_toArray, List.map_cons, List.map_nil]); first | done | (simp only [hji4]; rfl) | rfl | (simp only [List.length_drop, List.length_take]; rfl)) ?_; (with_reducible refine (spec_l01Of.calls kj39 a0 x604000_39 x604001_39 (wrap64 ((wrap64 ((wrap64 (t607 + a2_0)) + (wrap64 (2 * ji4)))) - (wrap64 (2 * t608)))) t609 t610 t611 t612 _ A54.out).mono ?_); rintro e w62 ⟨rfl, hb⟩; refine ⟨_, rfl, ?_⟩; have n0_ := Aside0.mk (blk_below (bkA BK596) hb); have n1_ := Aside0.mk (blk_below (bkA BK597) hb); have n2_ := Aside0.mk (blk_below (bkA BK598) hb); have n3_ := Aside0.mk (blk_below (bkA BK602) hb); have n4_ := Aside0.mk (blk_below (bkA BK603) hb); have n5_ := Aside0.mk (below_step blA hb); clear BK596; clear BK597; clear BK598; clear BK602; clear BK603; clear HB; have BK596 := n0_; have BK597 := n1_; have BK598 := n2_; have BK602 := n3_; have BK603 := n4_; have HB := n5_; clear n0_ n1_ n2_ n3_ n4_ n5_; (try clear hb); (try clear hb2); (try clear hk); (try clear hi); have hnb63 := NB598_596.out; have hnc63 := NB596_598.out; have hnb64 := NB598_597.out; have hnc64 := NB597_598.out; have hnb65 := NB598_602.out; have hnc65 := NB602_598.out; have hcz66_0 : w62.cell? ⟨gb598, 0, none⟩ = some (.int .i64 0) := (blk_cell BK598.out 0).trans rfl; have hcz66_1 : w62.cell? ⟨gb598, 1, none⟩ = some (.int .i64 0) := (blk_cell BK598.out 1).trans rfl; have hcz66_2 : w62.cell? ⟨gb598, 2, none⟩ = some (.int .i64 0) := (blk_cell BK598.out 2).trans rfl; have hfz66_0 := blk_frozen BK598.out 0; have hfz66_1 := blk_frozen BK598.out 1; have hfz66_2 := blk_frozen BK598.out 2))
          refine bodyPost_ret (results_ct rfl _ _ gb598 55 #[.int .i64 t609, .int .i64 t610, .int .i64 t611] (0, 0) _ rfl (by (with_reducible repeat (first | refine blk_drewN ?_ _ | refine blk_drew ?_ | refine blk_alloc ?_ _)); refine blk_put (cs := #[.int .i64 t609, .int .i64 t610, .int .i64 0]) ?_ 2 _ rfl; (with_reducible repeat (first | refine blk_drewN ?_ _ | refine blk_drew ?_ | refine blk_alloc ?_ _)); refine blk_put (cs := #[.int .i64 t609, .int .i64 0, .int .i64 0]) ?_ 1 _ rfl; (with_reducible repeat (first | refine blk_drewN ?_ _ | refine blk_drew ?_ | refine blk_alloc ?_ _)); refine blk_put (cs := #[.int .i64 0, .int .i64 0, .int .i64 0]) ?_ 0 _ rfl; (with_reducible repeat (first | refine blk_drewN ?_ _ | refine blk_drew ?_ | refine blk_alloc ?_ _)); exact BK598.out) Try.underlying55 rfl (by kernel_rfl)) rfl ?_
          exact ⟨by first | rfl | (simp [errW_none, errW_some] <;> rfl) | (simp only [← hji4]; first | rfl | (simp [errW_none, errW_some] <;> rfl)) | (simp [*, errW_none, errW_some] <;> rfl), blA⟩
/-! ### impl_times: function 107 -/
def impl_times.f (k : Nat) (a0 : Int) (a1 : Int) (a2 : Int) : Option (Int) := (impl_mod.f a0 a2).bind fun t637 => ((impl_mod.f a1 a2).bind fun t638 => ((bits_Mul64.f (IntKind.u64.wrap (t637)) (IntKind.u64.wrap (t638))).bind fun bt639 => (if (IntKind.u64.wrap (a2)) = 0 then (none) else ((bits_Div64.f k (Int.tmod bt639.1 (IntKind.u64.wrap (a2))) bt639.2 (IntKind.u64.wrap (a2))).bind fun bt641 => (some (wrap64 (bt641.2)))))))
theorem impl_times.mono : ∀ a0 a1 a2 k, LeO (impl_times.f k a0 a1 a2) (impl_times.f (k + 1) a0 a1 a2) := by
  intro a0 a1 a2 k
  unfold impl_times.f
  repeat' first
      | (with_reducible exact bits_Div64.mono _ _ _ _)
      | (with_reducible exact LeO.refl _)
      | (with_reducible exact LeO.none _)
      | (with_reducible refine LeO.ite ?_ ?_)
      | (with_reducible refine LeO.bind ?_ (fun _ => ?_))
      | exact bits_Div64.mono _ _ _ _
      | exact LeO.none _
      | refine LeO.ite ?_ ?_
      | refine LeO.bind ?_ (fun _ => ?_)
set_option maxHeartbeats 8000000 in
set_option maxRecDepth 100000 in
theorem impl_times.calls (k : Nat) (a0 : Int) (a1 : Int) (a2 : Int) (r : Int) (w : World) (h : impl_times.f k a0 a1 a2 = some r) :
    Calls Try.prog 107 #[.int .i64 a0, .int .i64 a1, .int .i64 a2] w fun e w' => e = .returned (.int .i64 r) ∧ Drawn0 w w' := by
  have H : ((impl_mod.f a0 a2).bind fun t637 => ((impl_mod.f a1 a2).bind fun t638 => ((bits_Mul64.f (IntKind.u64.wrap (t637)) (IntKind.u64.wrap (t638))).bind fun bt639 => (if (IntKind.u64.wrap (a2)) = 0 then (none) else ((bits_Div64.f k (Int.tmod bt639.1 (IntKind.u64.wrap (a2))) bt639.2 (IntKind.u64.wrap (a2))).bind fun bt641 => (some (wrap64 (bt641.2)))))))) = some r := h
  clear h
  replace H := Option.bind_eq_some_iff.mp H
  obtain ⟨t637, A40, H⟩ := H
  replace H : ((impl_mod.f a1 a2).bind fun t638 => ((bits_Mul64.f (IntKind.u64.wrap (t637)) (IntKind.u64.wrap (t638))).bind fun bt639 => (if (IntKind.u64.wrap (a2)) = 0 then (none) else ((bits_Div64.f k (Int.tmod bt639.1 (IntKind.u64.wrap (a2))) bt639.2 (IntKind.u64.wrap (a2))).bind fun bt641 => (some (wrap64 (bt641.2))))))) = some r := H
  have A4 := Aside0.mk A40
  clear A40
  replace H := Option.bind_eq_some_iff.mp H
  obtain ⟨t638, A50, H⟩ := H
  replace H : ((bits_Mul64.f (IntKind.u64.wrap (t637)) (IntKind.u64.wrap (t638))).bind fun bt639 => (if (IntKind.u64.wrap (a2)) = 0 then (none) else ((bits_Div64.f k (Int.tmod bt639.1 (IntKind.u64.wrap (a2))) bt639.2 (IntKind.u64.wrap (a2))).bind fun bt641 => (some (wrap64 (bt641.2)))))) = some r := H
  have A5 := Aside0.mk A50
  clear A50
  replace H := Option.bind_eq_some_iff.mp H
  obtain ⟨⟨t639, t640⟩, A60, H⟩ := H
  replace H : (if (IntKind.u64.wrap (a2)) = 0 then (none) else ((bits_Div64.f k (Int.tmod t639 (IntKind.u64.wrap (a2))) t640 (IntKind.u64.wrap (a2))).bind fun bt641 => (some (wrap64 (bt641.2))))) = some r := H
  have A6 := Aside0.mk A60
  clear A60
  by_cases c7 : (IntKind.u64.wrap (a2)) = 0
  · rw [if_pos c7] at H
    exact absurd H (by simp)
  · rw [if_neg c7] at H
    have c7b0 : ((IntKind.u64.wrap (a2)) == 0) = false := beq_eq_false_iff_ne.mpr c7
    have c7b1 : ((IntKind.u64.wrap (a2)) != 0) = true := bne_iff_ne.mpr c7
    replace H := Option.bind_eq_some_iff.mp H
    obtain ⟨⟨t641, t642⟩, A80, H⟩ := H
    replace H : (some (wrap64 (t642))) = some r := H
    have A8 := Aside0.mk A80
    clear A80
    obtain rfl := Option.some.inj H
    go_enter Try.func107, Try.ntmps107
    go_wp2_with (first | ((with_reducible refine gate_callee (f := 113) rfl ?_); refine goesL_ (some 14) rfl rfl Try.func113 (by kernel_rfl) rfl #[.int .i64 a0, .int .i64 a2] rfl (by (try simp only [List.map_toArray, List.map_cons, List.map_nil]); first | done | rfl | (simp only [List.length_drop, List.length_take]; rfl)) ?_; (with_reducible refine (impl_mod.calls a0 a2 t637 _ A4.out).mono ?_); rintro e w' ⟨rfl, ⟨nd, rfl⟩⟩; refine ⟨_, rfl, ?_⟩) | ((with_reducible refine gate_callee (f := 113) rfl ?_); refine goesL_ (some 18) rfl rfl Try.func113 (by kernel_rfl) rfl #[.int .i64 a1, .int .i64 a2] rfl (by (try simp only [List.map_toArray, List.map_cons, List.map_nil]); first | done | rfl | (simp only [List.length_drop, List.length_take]; rfl)) ?_; (with_reducible refine (impl_mod.calls a1 a2 t638 _ A5.out).mono ?_); rintro e w' ⟨rfl, ⟨nd, rfl⟩⟩; refine ⟨_, rfl, ?_⟩) | ((with_reducible refine gate_callee (f := 112) rfl ?_); refine goesL_ (some 20) rfl rfl Try.func112 (by kernel_rfl) rfl #[.int .u64 (IntKind.u64.wrap (t637)), .int .u64 (IntKind.u64.wrap (t638))] rfl (by (try simp only [List.map_toArray, List.map_cons, List.map_nil]); first | done | rfl | (simp only [List.length_drop, List.length_take]; rfl)) ?_; (with_reducible refine (bits_Mul64.calls (IntKind.u64.wrap (t637)) (IntKind.u64.wrap (t638)) t639 t640 _ A6.out).mono ?_); rintro e w' ⟨rfl, ⟨nd, rfl⟩⟩; refine ⟨_, rfl, ?_⟩) | ((with_reducible refine gate_callee (f := 114) rfl ?_); refine goesL_ (some 31) rfl rfl Try.func114 (by kernel_rfl) rfl #[.int .u64 (Int.tmod t639 (IntKind.u64.wrap (a2))), .int .u64 t640, .int .u64 (IntKind.u64.wrap (a2))] rfl (by (try simp only [List.map_toArray, List.map_cons, List.map_nil]); first | done | rfl | (simp only [List.length_drop, List.length_take]; rfl)) ?_; (with_reducible refine (bits_Div64.calls k (Int.tmod t639 (IntKind.u64.wrap (a2))) t640 (IntKind.u64.wrap (a2)) t641 t642 _ A8.out).mono ?_); rintro e w' ⟨rfl, ⟨nd, rfl⟩⟩; refine ⟨_, rfl, ?_⟩))
    go_ret
    exact ⟨by first | rfl | (simp; done) | (simp [*]; done), by repeat (first | exact Drawn0.refl _ | apply Drawn0.step)⟩
end Go.Proofs.Ytmhajnfdbjnegaa.PAll
