/- The program's ChildPlaces and the reference's return the same, for all arguments: the printed functions' law answers true. -/
import Derived.Test.YtakfeaomdkapaaaPFnExactChildPlacesx2
set_option linter.unusedVariables false
set_option linter.unusedSimpArgs false
namespace Go.Proofs.Ytakfeaomdkapaaa.Pure
open Go.RowKit Go.Proofs.Ytakfeaomdkapaaa.PFnExactChildPlaces Go.Proofs.YtakfeaomdkapaaaW.PrintWords Go.Proofs.YtakfeaomdkapaaaW.PrintLast

theorem w64 {n : Int} (h1 : -9223372036854775808 ≤ n) (h2 : n ≤ 9223372036854775807) : wrap64 n = n := by unfold wrap64; omega
theorem wfb {n : Int} (h : (Lit.int .i64 n).wf = true) : -9223372036854775808 ≤ n ∧ n ≤ 9223372036854775807 := by
  simp [Lit.wf, IntKind.min, IntKind.max, IntKind.bits, IntKind.signed] at h; omega
theorem rd_nat (l : List Int) (i : Nat) (h : i < l.length) : l[i]? = some (rd l (i : Int)) := by
  unfold rd; simp [List.getD_eq_getElem?_getD, h]

theorem eqInts (l : List Int) (hl : l.length ≤ 1048576) : ∃ K, ∀ k, K ≤ k → laws_eqInt64S.f k l l = some true := by
  have go : ∀ (d k i : Nat), i + d = l.length → d < k → laws_eqInt64S.l0 k l l i = some true := by
    intro d
    induction d with
    | zero =>
      intro k i h2 h3
      obtain ⟨k, rfl⟩ : ∃ m, k = m + 1 := ⟨k - 1, by omega⟩
      simp only [laws_eqInt64S.l0]
      rw [if_neg (by omega)]
    | succ d ih =>
      intro k i h2 h3
      obtain ⟨k, rfl⟩ : ∃ m, k = m + 1 := ⟨k - 1, by omega⟩
      simp only [laws_eqInt64S.l0]
      rw [if_pos (by omega), if_pos (by omega), if_pos (by omega), if_pos trivial, w64 (by omega) (by omega)]
      exact ih k (i + 1) (by omega) (by omega)
  refine ⟨l.length + 1, fun k hk => ?_⟩
  unfold laws_eqInt64S.f
  rw [if_pos rfl]
  exact go l.length k 0 (by omega) (by omega)

theorem markInts (l : List Int) (hl : l.length ≤ 1048576) : ∃ m : List Int, (m.length = l.length ∧ ∃ K, ∀ k, K ≤ k → laws_markInt64S.f k l 1 = some (1 + (l.length : Int), m)) ∧ ∃ K, ∀ k, K ≤ k → laws_heldInt64S.f k m 1 = some (1 + (l.length : Int)) := by
  have go : ∀ (d : Nat) (acc : List Int) (i : Nat), acc.length = l.length → i + d = l.length → (∀ j : Nat, j < i → acc[j]? = some (1 + (j : Int))) → ∃ m : List Int, (m.length = l.length ∧ ∀ j : Nat, j < l.length → m[j]? = some (1 + (j : Int))) ∧ ∀ k, d < k → laws_markInt64S.l0 k acc (1 + (i : Int)) i = some (1 + (l.length : Int), m) := by
    intro d
    induction d with
    | zero =>
      intro acc i h1 h2 h4
      refine ⟨acc, ⟨h1, fun j hj => h4 j (by omega)⟩, fun k h3 => ?_⟩
      obtain ⟨k, rfl⟩ : ∃ m, k = m + 1 := ⟨k - 1, by omega⟩
      simp only [laws_markInt64S.l0]
      rw [if_neg (by omega)]
      obtain rfl : i = l.length := by omega
      rfl
    | succ d ih =>
      intro acc i h1 h2 h4
      obtain ⟨m, hm, hk⟩ := ih (acc.set i (1 + (i : Int))) (i + 1) (by rw [List.length_set]; exact h1) (by omega) (fun j hj => by
        by_cases e : j = i
        · subst e
          rw [List.getElem?_set_self (by omega)]
        · rw [List.getElem?_set_ne (by omega)]
          exact h4 j (by omega))
      refine ⟨m, hm, fun k h3 => ?_⟩
      obtain ⟨k, rfl⟩ : ∃ m, k = m + 1 := ⟨k - 1, by omega⟩
      simp only [laws_markInt64S.l0]
      rw [if_pos (by omega), if_pos (by omega), w64 (n := 1 + (i : Int) + 1) (by omega) (by omega), w64 (by omega) (by omega), show ((i : Int).toNat) = i from by omega]
      have := hk k (by omega)
      rw [show (1 + (((i + 1 : Nat) : Int))) = 1 + (i : Int) + 1 from by omega, show (((i + 1 : Nat) : Int)) = (i : Int) + 1 from by omega] at this
      exact this
  obtain ⟨m, ⟨hm1, hm2⟩, hm3⟩ := go l.length l 0 rfl (by omega) (by intro j hj; omega)
  have ho : ∀ (d k i : Nat), i + d = m.length → d < k → laws_heldInt64S.l0 k m (1 + (i : Int)) i = some (1 + (l.length : Int)) := by
    intro d
    induction d with
    | zero =>
      intro k i h2 h3
      obtain ⟨k, rfl⟩ : ∃ m, k = m + 1 := ⟨k - 1, by omega⟩
      simp only [laws_heldInt64S.l0]
      rw [if_neg (by omega)]
      obtain rfl : i = l.length := by omega
      rfl
    | succ d ih =>
      intro k i h2 h3
      obtain ⟨k, rfl⟩ : ∃ m, k = m + 1 := ⟨k - 1, by omega⟩
      simp only [laws_heldInt64S.l0]
      have e1 := hm2 i (by omega)
      rw [rd_nat m i (by omega)] at e1
      rw [if_pos (by omega), if_pos (by omega), if_pos (Option.some.inj e1), w64 (n := 1 + (i : Int) + 1) (by omega) (by omega), w64 (by omega) (by omega)]
      have := ih k (i + 1) (by omega) (by omega)
      rw [show (1 + (((i + 1 : Nat) : Int))) = 1 + (i : Int) + 1 from by omega, show (((i + 1 : Nat) : Int)) = (i : Int) + 1 from by omega] at this
      exact this
  exact ⟨m, ⟨hm1, l.length + 1, fun k hk => hm3 k (by omega)⟩, l.length + 1, fun k hk => ho m.length k 0 (by omega) (by omega)⟩

theorem prime_cases (p : Int) : (spec_l01Prime.f p = some true ∧ (p = 2 ∨ p = 3 ∨ p = 5 ∨ p = 7)) ∨ (spec_l01Prime.f p = some false ∧ ¬ (p = 2 ∨ p = 3 ∨ p = 5 ∨ p = 7)) := by
  unfold spec_l01Prime.f
  by_cases h2 : p = 2
  · simp [h2]
  by_cases h3 : p = 3
  · simp [h3]
  by_cases h5 : p = 5
  · simp [h5]
  by_cases h7 : p = 7
  · simp [h7]
  · simp [h2, h3, h5, h7]

theorem isPrime_eq (p : Int) : impl_isPrime.f p = spec_l01Prime.f p := rfl

theorem in_eq (n a b : Int) : spec_l01In.f n a b = some (decide (a ≤ n ∧ n ≤ b)) := by
  unfold spec_l01In.f
  by_cases h : a ≤ n
  · rw [if_pos h]; simp [h]
  · rw [if_neg (by omega)]; simp [h]

/-- all numbers of a list have absolute values of at most so much -/
def allB (m : Int) (l : List Int) : Bool := l.all fun x => decide (-m ≤ x ∧ x ≤ m)
theorem allB_drop (m : Int) (l : List Int) (i : Nat) (h : i < l.length) : allB m (l.drop i) = (decide (-m ≤ rd l i ∧ rd l i ≤ m) && allB m (l.drop (i + 1))) := by
  have h1 := rd_nat l i h
  rw [List.getElem?_eq_getElem h] at h1
  rw [List.drop_eq_getElem_cons h, Option.some.inj h1]; rfl
theorem allB_rd {m : Int} {l : List Int} (h : allB m l = true) {i : Int} (h0 : 0 ≤ i) (h1 : i < l.length) : -m ≤ rd l i ∧ rd l i ≤ m := by
  obtain ⟨n, rfl⟩ := Int.eq_ofNat_of_zero_le h0
  have h2 := rd_nat l n (by omega)
  rw [List.getElem?_eq_getElem (by omega)] at h2
  unfold allB at h
  rw [List.all_eq_true] at h
  have := h (l[n]'(by omega)) (List.getElem_mem _)
  rw [Option.some.inj h2] at this
  simpa using this

/-- the first child of a place, how many there are, and all of them -/
def fc (p i : Int) : Int := if i = 0 then 1 else p + 2 + (i - 1) * p
def cn (p i : Int) : Int := if i = 0 then p + 1 else p
def kids (p i : Int) (n : Nat) : List Int := (List.range n).map fun j : Nat => fc p i + (j : Int)
theorem fc_bd (p i : Int) (hp : p = 2 ∨ p = 3 ∨ p = 5 ∨ p = 7) (h0 : 0 ≤ i) (h1 : i ≤ 5000) : i < fc p i ∧ 1 ≤ fc p i ∧ fc p i ≤ 40000 ∧ 2 ≤ cn p i ∧ cn p i ≤ 8 ∧ fc p i + cn p i = p * i + p + 2 := by
  unfold fc cn
  rcases hp with rfl | rfl | rfl | rfl <;> split <;> omega
theorem kids_succ (p i : Int) (n : Nat) : kids p i (n + 1) = kids p i n ++ [fc p i + (n : Int)] := by
  unfold kids; rw [List.range_succ, List.map_append]; rfl
theorem kids_length (p i : Int) (n : Nat) : (kids p i n).length = n := by simp [kids]
theorem kids_rd (p i : Int) (n j : Nat) (h : j < n) : rd (kids p i n) (j : Int) = fc p i + (j : Int) := by
  have := rd_nat (kids p i n) j (by rw [kids_length]; exact h)
  simp only [kids, List.getElem?_map] at this
  rw [List.getElem?_range h] at this
  exact (Option.some.inj this).symm

theorem child_eq (p i : Int) (hp : p = 2 ∨ p = 3 ∨ p = 5 ∨ p = 7) (h0 : 0 ≤ i) (h1 : i ≤ 5000) : spec_l07Child.f p i = some (fc p i, cn p i) := by
  unfold spec_l07Child.f fc cn
  by_cases h : i = 0
  · rw [if_pos h, if_pos h, if_pos h, w64 (by omega) (by omega)]
  · rw [if_neg h, if_neg h, if_neg h, w64 (n := i - 1) (by omega) (by omega), w64 (n := p + 2) (by omega) (by omega)]
    have : 0 ≤ (i - 1) * p ∧ (i - 1) * p ≤ 50000 := by rcases hp with rfl | rfl | rfl | rfl <;> omega
    rw [w64 (n := (i - 1) * p) (by omega) (by omega), w64 (by omega) (by omega)]

theorem firstChild_eq (p i : Int) (hp : p = 2 ∨ p = 3 ∨ p = 5 ∨ p = 7) (h0 : 0 ≤ i) (h1 : i ≤ 5000) : impl_firstChild.f p i = some (fc p i) := by
  unfold impl_firstChild.f fc
  by_cases h : i = 0
  · rw [if_pos h, if_pos h]
  · rw [if_neg h, if_neg h, w64 (n := i - 1) (by omega) (by omega), w64 (n := p + 2) (by omega) (by omega)]
    have : 0 ≤ (i - 1) * p ∧ (i - 1) * p ≤ 50000 := by rcases hp with rfl | rfl | rfl | rfl <;> omega
    rw [w64 (n := (i - 1) * p) (by omega) (by omega), w64 (by omega) (by omega)]

theorem childPlaces_eq (p i : Int) (hp : p = 2 ∨ p = 3 ∨ p = 5 ∨ p = 7) (h0 : 0 ≤ i) (h1 : i ≤ 5000) : ∀ k, 12 ≤ k → impl_childPlaces.f k p i = some (kids p i (cn p i).toNat) := by
  have hb := fc_bd p i hp h0 h1
  have go : ∀ (d k j : Nat), j + d = (cn p i).toNat → d < k → impl_childPlaces.l0 k p i (kids p i j) (cn p i) j = some (kids p i (cn p i).toNat) := by
    intro d
    induction d with
    | zero =>
      intro k j h2 h3
      obtain ⟨k, rfl⟩ : ∃ m, k = m + 1 := ⟨k - 1, by omega⟩
      simp only [impl_childPlaces.l0]
      rw [if_neg (by omega)]
      obtain rfl : j = (cn p i).toNat := by omega
      rfl
    | succ d ih =>
      intro k j h2 h3
      obtain ⟨k, rfl⟩ : ∃ m, k = m + 1 := ⟨k - 1, by omega⟩
      simp only [impl_childPlaces.l0]
      rw [if_pos (by omega), firstChild_eq p i hp h0 h1]
      simp only [Option.bind_some]
      rw [if_pos (by rw [kids_length]; omega), w64 (by omega) (by omega), w64 (by omega) (by omega), ← kids_succ]
      exact ih k (j + 1) (by omega) (by omega)
  intro k hk
  obtain ⟨k, rfl⟩ : ∃ m, k = m + 1 := ⟨k - 1, by omega⟩
  have e := go (cn p i).toNat k 0 (by omega) (by omega)
  unfold impl_childPlaces.f
  by_cases h : i = 0
  · rw [if_pos h, w64 (by omega) (by omega)]
    simp only [impl_childPlaces.j0]
    have : cn p i = p + 1 := by unfold cn; rw [if_pos h]
    rw [this] at e ⊢; exact e
  · rw [if_neg h]
    simp only [impl_childPlaces.j0]
    have : cn p i = p := by unfold cn; rw [if_neg h]
    rw [this] at e ⊢; exact e

/-- a sum of so many values from a place on -/
def sumC (f : List Int) (a : Int) : Nat → Int → Int
  | 0, s => s
  | n + 1, s => sumC f (a + 1) n (wrap64 (s + rd f a))
theorem place_bd (p i : Int) (hp : p = 2 ∨ p = 3 ∨ p = 5 ∨ p = 7) (h0 : 1 ≤ i) (h1 : i ≤ 5000) : 0 ≤ (if i ≤ p + 1 then 0 else (i - p - 2) / p + 1) ∧ (if i ≤ p + 1 then 0 else (i - p - 2) / p + 1) < i := by
  rcases hp with rfl | rfl | rfl | rfl <;> split <;> omega


def res (p i : Int) : List Int × Int :=
  if ¬ (p = 2 ∨ p = 3 ∨ p = 5 ∨ p = 7) then ([], 1) else if 0 ≤ i ∧ i ≤ 500 then (kids p i (cn p i).toNat, 0) else ([], 2)
theorem spec_res (p i : Int) : ∃ K, ∀ k, K ≤ k → spec_ChildPlaces.f k p i = some (res p i) := by
  refine ⟨20, fun k hk => ?_⟩
  unfold spec_ChildPlaces.f res
  rcases prime_cases p with ⟨h, hp⟩ | ⟨h, hp⟩
  · rw [h, in_eq, if_neg (not_not_intro hp)]
    simp only [Option.bind_some, if_true]
    by_cases hi : 0 ≤ i ∧ i ≤ 500
    · rw [decide_eq_true hi, if_pos hi, child_eq p i hp hi.1 (by omega)]
      simp only [Option.bind_some, if_true]
      have hb := fc_bd p i hp hi.1 (by omega)
      have go : ∀ (d k j : Nat), j + d = (cn p i).toNat → d < k → spec_ChildPlaces.l0 k (kids p i j) (fc p i) (cn p i) j = some (kids p i (cn p i).toNat, 0) := by
        intro d
        induction d with
        | zero =>
          intro k j h2 h3
          obtain ⟨k, rfl⟩ : ∃ m, k = m + 1 := ⟨k - 1, by omega⟩
          simp only [spec_ChildPlaces.l0]
          rw [if_neg (by omega)]
          obtain rfl : j = (cn p i).toNat := by omega
          rfl
        | succ d ih =>
          intro k j h2 h3
          obtain ⟨k, rfl⟩ : ∃ m, k = m + 1 := ⟨k - 1, by omega⟩
          simp only [spec_ChildPlaces.l0]
          rw [if_pos (by omega), if_pos (by rw [kids_length]; omega), w64 (by omega) (by omega), w64 (by omega) (by omega), ← kids_succ]
          exact ih k (j + 1) (by omega) (by omega)
      exact go (cn p i).toNat k 0 (by omega) (by omega)
    · rw [decide_eq_false hi, if_neg hi]; simp
  · rw [h, if_pos hp]; simp
theorem impl_res (p i : Int) : ∃ K, ∀ k, K ≤ k → impl_ChildPlaces.f k p i = some (res p i) := by
  refine ⟨20, fun k hk => ?_⟩
  unfold impl_ChildPlaces.f res
  rw [isPrime_eq]
  rcases prime_cases p with ⟨h, hp⟩ | ⟨h, hp⟩
  · rw [h, if_neg (not_not_intro hp)]
    simp only [Option.bind_some, if_true]
    by_cases hi : 0 ≤ i ∧ i ≤ 500
    · rw [if_neg (by omega), if_neg (by omega), if_pos hi, childPlaces_eq p i hp hi.1 (by omega) _ (by omega)]; rfl
    · rw [if_neg hi]
      by_cases h1 : i < 0
      · rw [if_pos h1]
      · rw [if_neg h1, if_pos (by omega)]
  · rw [h, if_pos hp]; simp
theorem res_length (p i : Int) : (res p i).1.length ≤ 1048576 := by
  unfold res
  split
  · simp
  · rename_i hp
    split
    · rename_i hi
      have := fc_bd p i (Decidable.not_not.1 hp) hi.1 (by omega)
      simp only [kids_length]; omega
    · simp
theorem FnExactChildPlaces : laws_FnExactChildPlaces.Pure := by
  intro p i _ _
  obtain ⟨K2, e2⟩ := spec_res p i
  obtain ⟨K3, e3⟩ := impl_res p i
  have hr := res_length p i
  generalize res p i = w at *
  obtain ⟨w0, w1⟩ := w
  simp only at hr
  obtain ⟨K4, e4⟩ := eqInts w0 hr
  obtain ⟨m, ⟨hm, K6, e6⟩, K7, e7⟩ := markInts w0 hr
  refine ⟨K2 + K3 + K4 + K6 + K7 + 5, ?_⟩
  generalize hK : K2 + K3 + K4 + K6 + K7 = K
  have e2 : ∀ j, spec_ChildPlaces.f (K + j) p i = some (w0, w1) := fun j => e2 _ (by omega)
  have e3 : ∀ j, impl_ChildPlaces.f (K + j) p i = some (w0, w1) := fun j => e3 _ (by omega)
  have e4 : ∀ j, laws_eqInt64S.f (K + j) w0 w0 = some true := fun j => e4 _ (by omega)
  have e6 : ∀ j, laws_markInt64S.f (K + j) w0 1 = some (1 + (w0.length : Int), m) := fun j => e6 _ (by omega)
  have e7 : ∀ j, laws_heldInt64S.f (K + j) m 1 = some (1 + (w0.length : Int)) := fun j => e7 _ (by omega)
  have n1 : ¬ (1 + (w0.length : Int) < 0) := by omega
  simp [laws_FnExactChildPlaces.f, laws_FnExactChildPlaces.j0, laws_FnExactChildPlaces.j1, e2, e3, e4, e6, e7, n1]

end Go.Proofs.Ytakfeaomdkapaaa.Pure
