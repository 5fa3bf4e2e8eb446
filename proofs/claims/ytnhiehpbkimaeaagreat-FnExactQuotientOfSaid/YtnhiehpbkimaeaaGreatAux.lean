/- Small laws for this seat's walks: a store behind draws. -/
import Derived.Deep.Draws
import Derived.LoopN
import Derived.RowKit
import Derived.WalkKit
namespace Go.Proofs.YtnhiehpbkimaeaaGreat.Aux
theorem isSome_setCell (w : World) (p a : Addr) (u : Value) : ((w.setCell p u).cell? a).isSome = (w.cell? a).isSome := by
  by_cases e : p = a
  · subst e
    cases h : w.cell? p with
    | some v => rw [World.cell?_setCell_same w p u h]; rfl
    | none =>
      unfold World.cell? World.setCell at *
      simp only [Array.getElem?_modify, if_true] at *
      cases hb : w.heap[p.block]? with
      | none => simp
      | some o =>
        rw [hb] at h
        simp only [Option.map_some]
        cases o <;> simp at h ⊢
        all_goals (first | (split <;> simp_all) | simp_all)
  · rw [World.cell?_setCell_other w p a u e]
theorem setCell_drewN (w : World) (n : Nat) (a : Addr) (v : Value) : (w.drewN n).setCell a v = (w.setCell a v).drewN n := by
  unfold World.setCell World.drewN
  rfl
end Go.Proofs.YtnhiehpbkimaeaaGreat.Aux
