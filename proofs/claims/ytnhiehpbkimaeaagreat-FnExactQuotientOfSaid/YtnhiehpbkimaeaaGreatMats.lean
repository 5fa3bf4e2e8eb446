/- Matrices as data: arrays of arrays, opened and shut. -/
import Derived.WalkKit
import Derived.ProofKit
import Derived.OpenShut
import Derived.ShutString
import Derived.ChangeOld
import Derived.Below
import Derived.SizedLaws
import Derived.Lib.SmallJoins
import Derived.Deep.Slices
namespace Go.Proofs.YtnhiehpbkimaeaaGreat.Mats
open Go.ChangeShapes Go.WideShapes Go.ChangeAt Go.RowKit Go.Joins Go.Deep
section
variable {H : Type} {enc : TypeId × Value → H} {P : Program} {w : World} {base : Nat} {spare : Nat → Bool} {held : Bool}
theorem trod_pair {t e : TypeId} {fuel : Nat} {c0 c1 : Value} {x : DataW H × List MemPlace} (hs : P.underlying t = some (.array 2 e)) (he : P.underlying e = some (.int .i64)) (hCe : P.cellsOf e = 1)
    (h : DataW.trod enc P w base spare held fuel t [c0, c1] = some x) : ∃ a b : Int, c0 = .int .i64 a ∧ c1 = .int .i64 b ∧ x = (.agg [.lit (.int .i64 a), .lit (.int .i64 b)], []) ∧ (Lit.int .i64 a).wf = true ∧ (Lit.int .i64 b).wf = true := by
  obtain ⟨xs, m, rfl, hx, hl, hlen, hel⟩ := DataW.trod_array hs h
  match xs, hlen with
  | [y0, y1], _ =>
    have h0 : DataW.trod enc P w base spare held m e [c0] = some y0 := by simpa [hCe] using hel 0 (by omega)
    have h1 : DataW.trod enc P w base spare held m e [c1] = some y1 := by simpa [hCe] using hel 1 (by omega)
    obtain ⟨a, e0, rfl, w0⟩ := DataW.trod_int he h0
    obtain ⟨b, e1, rfl, w1⟩ := DataW.trod_int he h1
    simp at e0 e1
    exact ⟨a, b, e0, e1, by simpa using hx, w0, w1⟩
theorem trod_mat {t e u : TypeId} {fuel : Nat} {cs : List Value} {x : DataW H × List MemPlace} (hs : P.underlying t = some (.array 2 e)) (he : P.underlying e = some (.array 2 u)) (hu : P.underlying u = some (.int .i64)) (hC : P.cellsOf t = 4) (hCe : P.cellsOf e = 2) (hCu : P.cellsOf u = 1)
    (h : DataW.trod enc P w base spare held fuel t cs = some x) : ∃ a b c d : Int, cs = [.int .i64 a, .int .i64 b, .int .i64 c, .int .i64 d] ∧ x = (.agg [.agg [.lit (.int .i64 a), .lit (.int .i64 b)], .agg [.lit (.int .i64 c), .lit (.int .i64 d)]], []) ∧ (Lit.int .i64 a).wf = true ∧ (Lit.int .i64 b).wf = true ∧ (Lit.int .i64 c).wf = true ∧ (Lit.int .i64 d).wf = true := by
  obtain ⟨xs, m, rfl, hx, hl, hlen, hel⟩ := DataW.trod_array hs h
  rw [hC] at hl
  match xs, hlen with
  | [y0, y1], _ =>
    match cs, hl with
    | [c0, c1, c2, c3], _ =>
      have h0 : DataW.trod enc P w base spare held m e [c0, c1] = some y0 := by simpa [hCe] using hel 0 (by omega)
      have h1 : DataW.trod enc P w base spare held m e [c2, c3] = some y1 := by simpa [hCe] using hel 1 (by omega)
      obtain ⟨a, b, rfl, rfl, rfl, w0, w1⟩ := trod_pair he hu hCu h0
      obtain ⟨c, d, rfl, rfl, rfl, w2, w3⟩ := trod_pair he hu hCu h1
      exact ⟨a, b, c, d, rfl, by simpa using hx, w0, w1, w2, w3⟩
theorem listed {α : Type} {P : Nat → α → Prop} : ∀ n : Nat, (∀ i, i < n → ∃ x, P i x) → ∃ l : List α, l.length = n ∧ ∀ i x, l[i]? = some x → P i x
  | 0, _ => ⟨[], rfl, fun i x h => by simp at h⟩
  | n + 1, h => by
    obtain ⟨l, hl, hp⟩ := listed n (fun i hi => h i (by omega))
    obtain ⟨x, hx⟩ := h n (by omega)
    refine ⟨l ++ [x], by simp [hl], fun i y hy => ?_⟩
    by_cases hi : i < n
    · rw [List.getElem?_append_left (by omega)] at hy; exact hp i y hy
    · by_cases he : i = n
      · subst he
        rw [List.getElem?_append_right (by omega), hl] at hy
        simp at hy; subst hy; exact hx
      · rw [List.getElem?_eq_none (by simp [hl]; omega)] at hy; cases hy
theorem open_mats {s t e u : TypeId} {fuel : Nat} {A : Option Addr} {len cap : Nat} {x : DataW H × List MemPlace} (hsl : P.underlying s = some (.slice t)) (hs : P.underlying t = some (.array 2 e)) (he : P.underlying e = some (.array 2 u)) (hu : P.underlying u = some (.int .i64)) (hC : P.cellsOf t = 4) (hCe : P.cellsOf e = 2) (hCu : P.cellsOf u = 1)
    (h : DataW.trod enc P w base spare held fuel s [.slice A len cap] = some x) : len ≤ cap ∧ cap ≤ maxLen ∧ ∃ zs : List (Int × Int × Int × Int), zs.length = len ∧ (0 < len → ∃ ad, A = some ad ∧ ∀ j p, zs[j]? = some p → ∀ i u, [Value.int .i64 p.1, .int .i64 p.2.1, .int .i64 p.2.2.1, .int .i64 p.2.2.2][i]? = some u → w.cell? (ad.add (j * 4 + i)) = some u) ∧
      (∀ p ∈ zs, (Lit.int .i64 p.1).wf = true ∧ (Lit.int .i64 p.2.1).wf = true ∧ (Lit.int .i64 p.2.2.1).wf = true ∧ (Lit.int .i64 p.2.2.2).wf = true) := by
  rcases open_slice hsl h with ⟨hcs, _⟩ | ⟨a, l, c, m, n, D, Pl, hcs, _, hl, hm, hmm, _, hel⟩
  · simp at hcs
    obtain ⟨rfl, rfl, rfl⟩ := hcs
    exact ⟨Nat.le_refl _, by unfold maxLen; omega, [], rfl, fun h => by omega, fun p hp => by simp at hp⟩
  · simp at hcs
    obtain ⟨rfl, rfl, rfl⟩ := hcs
    have hlm : len ≤ m := by rw [hmm]; split <;> omega
    obtain ⟨zs, hz, hp⟩ := listed (P := fun j (p : Int × Int × Int × Int) => (∀ i u, [Value.int .i64 p.1, .int .i64 p.2.1, .int .i64 p.2.2.1, .int .i64 p.2.2.2][i]? = some u → w.cell? (a.add (j * 4 + i)) = some u) ∧ (Lit.int .i64 p.1).wf = true ∧ (Lit.int .i64 p.2.1).wf = true ∧ (Lit.int .i64 p.2.2.1).wf = true ∧ (Lit.int .i64 p.2.2.2).wf = true) len (fun j hj => by
      obtain ⟨cs', h1, h2⟩ := hel j (by omega)
      obtain ⟨a0, a1, a2, a3, rfl, _, w0, w1, w2, w3⟩ := trod_mat hs he hu hC hCe hCu h2
      refine ⟨(a0, a1, a2, a3), fun i u hi => ?_, w0, w1, w2, w3⟩
      rw [hC] at h1
      unfold World.cells? at h1
      split at h1
      · have hi4 : i < 4 := by
          refine Decidable.byContradiction fun hn => ?_
          rw [List.getElem?_eq_none (by simp; omega)] at hi; cases hi
        have := mapM_some_get h1 i i (by simp [hi4])
        rw [add_add] at this
        rw [this]; exact hi
      · cases h1)
    exact ⟨hl, hm, zs, hz, fun _ => ⟨a, rfl, fun j p hj => (hp j p hj).1⟩, fun p hpm => by
      obtain ⟨j, hj⟩ := List.getElem?_of_mem hpm
      exact (hp j p hj).2⟩
end
end Go.Proofs.YtnhiehpbkimaeaaGreat.Mats
