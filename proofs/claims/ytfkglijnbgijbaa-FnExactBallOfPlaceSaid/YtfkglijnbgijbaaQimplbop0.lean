-- turned for this claim out of the kit's print: the same functions, packed anew
import Derived.Test.YtfkglijnbgijbaaQx
import Derived.Test.YtfkglijnbgijbaaQimplfitted
import Derived.Test.YtfkglijnbgijbaaQimplneighbour
import Derived.Test.YtfkglijnbgijbaaQimpltoward
namespace Go.Proofs.Ytfkglijnbgijbaa.PAll
open Go.RowKit Go.Proofs.YtfkglijnbgijbaaW.PrintWords Go.Proofs.YtfkglijnbgijbaaW.PrintLast Go.Proofs.YtfkglijnbgijbaaW.PrintMore
attribute [local go_sem] Go.Proofs.Ytfkglijnbgijbaa.Aux.setCell_drewN Go.Proofs.Ytfkglijnbgijbaa.Aux.isSome_setCell Go.Proofs.Ytfkglijnbgijbaa.Aux.max_eight max2_int min2_int max_two min_two max_three min_three max_four min_four   -- for this text's walks alone
set_option linter.unusedVariables false
set_option linter.unusedSimpArgs false
/-! ### impl_bop0: function 79 -/
def impl_bop0.f : Nat → Int → Int → Int → Int → Int → Option (Int × Int × Int × Int × Int × Int × Bool)
  | 0, _, _, _, _, _ => none
  | k + 1, a0, a1_0, a1_1, a1_2, a2 => if a2 = 0 then (some (a1_0, a1_1, a1_2, a1_0, a1_1, a1_2, true)) else ((impl_parentPlace.f a0 a2).bind fun t624 => ((impl_bop0.f k a0 a1_0 a1_1 a1_2 t624).bind fun bt625 => (if bt625.2.2.2.2.2.2 = true then ((impl_firstChild.f a0 t624).bind fun t634 => (if t624 > 0 then ((impl_toward.f k a0 bt625.1 bt625.2.1 bt625.2.2.1 bt625.2.2.2.1 bt625.2.2.2.2.1 bt625.2.2.2.2.2.1).bind fun t635 => (if (wrap64 (a2 - t634)) ≥ t635 then ((impl_neighbour.f k a0 bt625.1 bt625.2.1 bt625.2.2.1 (wrap64 ((wrap64 (a2 - t634)) + 1))).bind fun bt636 => (some (bt636.1, bt636.2.1, bt636.2.2.1, bt625.1, bt625.2.1, bt625.2.2.1, bt636.2.2.2))) else ((impl_neighbour.f k a0 bt625.1 bt625.2.1 bt625.2.2.1 (wrap64 (a2 - t634))).bind fun bt641 => (some (bt641.1, bt641.2.1, bt641.2.2.1, bt625.1, bt625.2.1, bt625.2.2.1, bt641.2.2.2))))) else ((impl_neighbour.f k a0 bt625.1 bt625.2.1 bt625.2.2.1 (wrap64 (a2 - t634))).bind fun bt646 => (some (bt646.1, bt646.2.1, bt646.2.2.1, bt625.1, bt625.2.1, bt625.2.2.1, bt646.2.2.2))))) else (some (0, 0, 0, 0, 0, 0, false)))))
theorem impl_bop0.mono_l : ∀ k, (∀ y0 y1 y2 y3 y4, LeO (impl_bop0.f k y0 y1 y2 y3 y4) (impl_bop0.f (k + 1) y0 y1 y2 y3 y4))
  | 0 => fun _ _ _ _ _ r h => by simp [impl_bop0.f] at h
  | k + 1 => by
    have ih0 := impl_bop0.mono_l k
    · intro y0 y1 y2 y3 y4
      unfold impl_bop0.f
      repeat' first
      | (with_reducible exact ih0 _ _ _ _ _)
      | (with_reducible exact impl_neighbour.mono _ _ _ _ _ _)
      | (with_reducible exact impl_toward.mono _ _ _ _ _ _ _ _)
      | (with_reducible exact LeO.refl _)
      | (with_reducible exact LeO.none _)
      | (with_reducible refine LeO.ite ?_ ?_)
      | (with_reducible refine LeO.bind ?_ (fun _ => ?_))
      | exact ih0 _ _ _ _ _
      | exact impl_neighbour.mono _ _ _ _ _ _
      | exact impl_toward.mono _ _ _ _ _ _ _ _
      | exact LeO.none _
      | refine LeO.ite ?_ ?_
      | refine LeO.bind ?_ (fun _ => ?_)
theorem impl_bop0.mono : ∀ a0 a1 a2 a3 a4 k, LeO (impl_bop0.f k a0 a1 a2 a3 a4) (impl_bop0.f (k + 1) a0 a1 a2 a3 a4) := by
  intro a0 a1 a2 a3 a4 k
  have ih0 := impl_bop0.mono_l k
  exact ih0 a0 a1 a2 a3 a4
end Go.Proofs.Ytfkglijnbgijbaa.PAll
