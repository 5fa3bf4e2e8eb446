-- turned for this claim out of the kit's print: the same functions, packed anew
import Derived.Test.YtfkglijnbgijbaaQx
import Derived.Test.YtfkglijnbgijbaaQimplbop
import Derived.Test.YtfkglijnbgijbaaQimplbop0
import Derived.Test.YtfkglijnbgijbaaQimplfitted
import Derived.Test.YtfkglijnbgijbaaQimplneighbour
import Derived.Test.YtfkglijnbgijbaaQimpltoward
namespace Go.Proofs.Ytfkglijnbgijbaa.PAll
open Go.RowKit Go.Proofs.YtfkglijnbgijbaaW.PrintWords Go.Proofs.YtfkglijnbgijbaaW.PrintLast Go.Proofs.YtfkglijnbgijbaaW.PrintMore
attribute [local go_sem] Go.Proofs.Ytfkglijnbgijbaa.Aux.setCell_drewN Go.Proofs.Ytfkglijnbgijbaa.Aux.isSome_setCell Go.Proofs.Ytfkglijnbgijbaa.Aux.max_eight max2_int min2_int max_two min_two max_three min_three max_four min_four   -- for this text's walks alone
set_option linter.unusedVariables false
set_option linter.unusedSimpArgs false
/-! ### impl_ballOfPlace: function 79 -/
def impl_ballOfPlace.f : Nat → Int → Int → Int → Int → Int → Option (Int × Int × Int × Int × Int × Int × Bool)
  | 0, _, _, _, _, _ => none
  | k + 1, a0, a1_0, a1_1, a1_2, a2 => if a2 = 0 then (some (a1_0, a1_1, a1_2, a1_0, a1_1, a1_2, true)) else ((impl_parentPlace.f a0 a2).bind fun t624 => ((impl_ballOfPlace.f k a0 a1_0 a1_1 a1_2 t624).bind fun bt625 => (if bt625.2.2.2.2.2.2 = true then ((impl_firstChild.f a0 t624).bind fun t634 => (if t624 > 0 then ((impl_toward.f k a0 bt625.1 bt625.2.1 bt625.2.2.1 bt625.2.2.2.1 bt625.2.2.2.2.1 bt625.2.2.2.2.2.1).bind fun t635 => (if (wrap64 (a2 - t634)) ≥ t635 then ((impl_neighbour.f k a0 bt625.1 bt625.2.1 bt625.2.2.1 (wrap64 ((wrap64 (a2 - t634)) + 1))).bind fun bt636 => (some (bt636.1, bt636.2.1, bt636.2.2.1, bt625.1, bt625.2.1, bt625.2.2.1, bt636.2.2.2))) else ((impl_neighbour.f k a0 bt625.1 bt625.2.1 bt625.2.2.1 (wrap64 (a2 - t634))).bind fun bt641 => (some (bt641.1, bt641.2.1, bt641.2.2.1, bt625.1, bt625.2.1, bt625.2.2.1, bt641.2.2.2))))) else ((impl_neighbour.f k a0 bt625.1 bt625.2.1 bt625.2.2.1 (wrap64 (a2 - t634))).bind fun bt646 => (some (bt646.1, bt646.2.1, bt646.2.2.1, bt625.1, bt625.2.1, bt625.2.2.1, bt646.2.2.2))))) else (some (0, 0, 0, 0, 0, 0, false)))))
theorem impl_ballOfPlace.mono_l : ∀ k, (∀ y0 y1 y2 y3 y4, LeO (impl_ballOfPlace.f k y0 y1 y2 y3 y4) (impl_ballOfPlace.f (k + 1) y0 y1 y2 y3 y4))
  | 0 => fun _ _ _ _ _ r h => by simp [impl_ballOfPlace.f] at h
  | k + 1 => by
    have ih0 := impl_ballOfPlace.mono_l k
    · intro y0 y1 y2 y3 y4
      unfold impl_ballOfPlace.f
      repeat' first
      | (with_reducible exact ih0 _ _ _ _ _)
      | (with_reducible exact impl_neighbour.mono _ _ _ _ _ _)
      | (with_reducible exact impl_toward.mono _ _ _ _ _ _ _ _)
      | (with_reducible exact LeO.refl _)
      | (with_reducible exact LeO.none _)
      | (with_reducible refine LeO.ite ?_ ?_)
      | (with_reducible refine LeO.bind ?_ (fun _ => ?_))
      | exact ih0 _ _ _ _ _
      | exact impl_neighbour.mono _ _ _ _ _ _
      | exact impl_toward.mono _ _ _ _ _ _ _ _
      | exact LeO.none _
      | refine LeO.ite ?_ ?_
      | refine LeO.bind ?_ (fun _ => ?_)
theorem impl_ballOfPlace.mono : ∀ a0 a1 a2 a3 a4 k, LeO (impl_ballOfPlace.f k a0 a1 a2 a3 a4) (impl_ballOfPlace.f (k + 1) a0 a1 a2 a3 a4) := by
  intro a0 a1 a2 a3 a4 k
  have ih0 := impl_ballOfPlace.mono_l k
  exact ih0 a0 a1 a2 a3 a4
theorem impl_ballOfPlace.eq0 : ∀ k a0 a1_0 a1_1 a1_2 a2, impl_ballOfPlace.f k a0 a1_0 a1_1 a1_2 a2 = impl_bop0.f k a0 a1_0 a1_1 a1_2 a2 := by
  intro k
  induction k with
  | zero => intros; rfl
  | succ k ih => intros; simp only [impl_ballOfPlace.f, impl_bop0.f, ih]
theorem impl_ballOfPlace.calls (k : Nat) : ∀ (a0 : Int) (a1_0 : Int) (a1_1 : Int) (a1_2 : Int) (a2 : Int) (r1 : Int) (r2 : Int) (r3 : Int) (r4 : Int) (r5 : Int) (r6 : Int) (r7 : Bool) (w : World) (h : impl_ballOfPlace.f k a0 a1_0 a1_1 a1_2 a2 = some (r1, r2, r3, r4, r5, r6, r7)),
    Calls Try.prog 79 #[.int .i64 a0, .agg #[.int .i64 a1_0, .int .i64 a1_1, .int .i64 a1_2], .int .i64 a2] w fun e w' => e = .returned (.tuple #[.agg #[.int .i64 r1, .int .i64 r2, .int .i64 r3], .agg #[.int .i64 r4, .int .i64 r5, .int .i64 r6], .bool r7]) ∧ Below w.heap.size w w' := by
  intro a0 a1_0 a1_1 a1_2 a2 r1 r2 r3 r4 r5 r6 r7 w h
  rw [impl_ballOfPlace.eq0] at h
  exact impl_bop.calls k a0 a1_0 a1_1 a1_2 a2 r1 r2 r3 r4 r5 r6 r7 w h
end Go.Proofs.Ytfkglijnbgijbaa.PAll
