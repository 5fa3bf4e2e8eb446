/- What the law FnBoundaries says of the printed functions holds for every code: it answers true. -/
import Derived.Test.YtfkglijnbgijbaaQLFnBoundaries
import Derived.Test.YtfkglijnbgijbaaMath
set_option linter.unusedVariables false
set_option linter.unusedSimpArgs false
namespace Go.Proofs.Ytfkglijnbgijbaa.Pure
open Go.RowKit Go.Proofs.Ytfkglijnbgijbaa.PAll Go.Proofs.YtfkglijnbgijbaaW.PrintWords Go.Proofs.YtfkglijnbgijbaaW.PrintLast PM

theorem w64 {n : Int} (h1 : -9223372036854775808 ≤ n) (h2 : n ≤ 9223372036854775807) : wrap64 n = n := by unfold wrap64; omega
theorem wfb {n : Int} (h : (Lit.int .i64 n).wf = true) : -9223372036854775808 ≤ n ∧ n ≤ 9223372036854775807 := by
  simp [Lit.wf, IntKind.min, IntKind.max, IntKind.bits, IntKind.signed] at h; omega
theorem rd_nat (l : List Int) (i : Nat) (h : i < l.length) : l[i]? = some (rd l (i : Int)) := by
  unfold rd; simp [List.getD_eq_getElem?_getD, h]

theorem prime_cases (p : Int) : (spec_l01Prime.f p = some true ∧ (p = 2 ∨ p = 3 ∨ p = 5 ∨ p = 7)) ∨ (spec_l01Prime.f p = some false ∧ ¬ (p = 2 ∨ p = 3 ∨ p = 5 ∨ p = 7)) := by
  unfold spec_l01Prime.f
  by_cases h2 : p = 2
  · simp [h2]
  by_cases h3 : p = 3
  · simp [h3]
  by_cases h5 : p = 5
  · simp [h5]
  by_cases h7 : p = 7
  · simp [h7]
  · simp [h2, h3, h5, h7]

theorem isPrime_eq (p : Int) : impl_isPrime.f p = spec_l01Prime.f p := rfl

theorem in_eq (n a b : Int) : spec_l01In.f n a b = some (decide (a ≤ n ∧ n ≤ b)) := by
  unfold spec_l01In.f
  by_cases h : a ≤ n
  · rw [if_pos h]; simp [h]
  · rw [if_neg (by omega)]; simp [h]

theorem parent_eq (p i : Int) (hp : p = 2 ∨ p = 3 ∨ p = 5 ∨ p = 7) (h0 : -1000000 ≤ i) (h1 : i ≤ 1000000) : spec_l07Parent.f p i = some (if i ≤ p + 1 then 0 else (i - p - 2) / p + 1) := by
  unfold spec_l07Parent.f
  rw [w64 (by omega) (by omega)]
  by_cases h : i ≤ p + 1
  · rw [if_pos h, if_pos h]
  · rw [if_neg h, if_neg h, if_neg (by omega), w64 (n := i - p) (by omega) (by omega), w64 (n := i - p - 2) (by omega) (by omega), Int.tdiv_eq_ediv_of_nonneg (by omega)]
    have : 0 ≤ (i - p - 2) / p ∧ (i - p - 2) / p ≤ 1000000 := by
      rcases hp with rfl | rfl | rfl | rfl <;> omega
    rw [w64 (n := (i - p - 2) / p) (by omega) (by omega), w64 (by omega) (by omega)]

theorem parentPlace_eq (p i : Int) : impl_parentPlace.f p i = spec_l07Parent.f p i := rfl

/-- the number of places of a region -/
def szN (p : Int) : Nat → Int
  | 0 => 1
  | n + 1 => p * szN p n + 2
theorem size_eq (p r : Int) (hp : p = 2 ∨ p = 3 ∨ p = 5 ∨ p = 7) (h0 : 0 ≤ r) (h1 : r ≤ 4) : ∀ k, 6 ≤ k → spec_l07Size.f k p r = some (szN p r.toNat) := by
  intro k hk
  refine at_rounds (g := fun k => spec_l07Size.f k p r) (fun k => spec_l07Size.mono p r k) hk ?_
  have hr : r = 0 ∨ r = 1 ∨ r = 2 ∨ r = 3 ∨ r = 4 := by omega
  rcases hp with rfl | rfl | rfl | rfl <;> rcases hr with rfl | rfl | rfl | rfl | rfl <;> decide +kernel
theorem szN_bd (p r : Int) (hp : p = 2 ∨ p = 3 ∨ p = 5 ∨ p = 7) (h0 : 0 ≤ r) (h1 : r ≤ 4) : 1 ≤ szN p r.toNat ∧ szN p r.toNat ≤ 5000 := by
  have hr : r = 0 ∨ r = 1 ∨ r = 2 ∨ r = 3 ∨ r = 4 := by omega
  rcases hp with rfl | rfl | rfl | rfl <;> rcases hr with rfl | rfl | rfl | rfl | rfl <;> decide +kernel
theorem szN_succ (p r : Int) (h0 : 1 ≤ r) : szN p r.toNat = p * szN p (r - 1).toNat + 2 := by
  rw [show r.toNat = (r - 1).toNat + 1 from by omega]; rfl
theorem szN_step (p r : Int) (hp : p = 2 ∨ p = 3 ∨ p = 5 ∨ p = 7) (h0 : 1 ≤ r) (h1 : r ≤ 4) {i : Int} (hi : i < szN p (r - 1).toNat) : p * i + p + 2 ≤ szN p r.toNat ∧ szN p (r - 1).toNat ≤ szN p r.toNat := by
  have hb := szN_bd p (r - 1) hp (by omega) (by omega)
  rw [szN_succ p r h0]
  generalize szN p (r - 1).toNat = s at *
  rcases hp with rfl | rfl | rfl | rfl <;> omega

theorem rsize_eq (p r : Int) (hp : p = 2 ∨ p = 3 ∨ p = 5 ∨ p = 7) (h0 : 0 ≤ r) (h1 : r ≤ 4) : ∀ k, 6 ≤ k → impl_regionSize.f k p r = some (szN p r.toNat) := by
  intro k hk
  refine at_rounds (g := fun k => impl_regionSize.f k p r) (fun k => impl_regionSize.mono p r k) hk ?_
  have hr : r = 0 ∨ r = 1 ∨ r = 2 ∨ r = 3 ∨ r = 4 := by omega
  rcases hp with rfl | rfl | rfl | rfl <;> rcases hr with rfl | rfl | rfl | rfl | rfl <;> decide +kernel

/-- all numbers of a list have absolute values of at most so much -/
def allB (m : Int) (l : List Int) : Bool := l.all fun x => decide (-m ≤ x ∧ x ≤ m)
theorem allB_drop (m : Int) (l : List Int) (i : Nat) (h : i < l.length) : allB m (l.drop i) = (decide (-m ≤ rd l i ∧ rd l i ≤ m) && allB m (l.drop (i + 1))) := by
  have h1 := rd_nat l i h
  rw [List.getElem?_eq_getElem h] at h1
  rw [List.drop_eq_getElem_cons h, Option.some.inj h1]; rfl
theorem allB_rd {m : Int} {l : List Int} (h : allB m l = true) {i : Int} (h0 : 0 ≤ i) (h1 : i < l.length) : -m ≤ rd l i ∧ rd l i ≤ m := by
  obtain ⟨n, rfl⟩ := Int.eq_ofNat_of_zero_le h0
  have h2 := rd_nat l n (by omega)
  rw [List.getElem?_eq_getElem (by omega)] at h2
  unfold allB at h
  rw [List.all_eq_true] at h
  have := h (l[n]'(by omega)) (List.getElem_mem _)
  rw [Option.some.inj h2] at this
  simpa using this

theorem vals_eq (l : List Int) (hl : l.length ≤ 1048576) : ∃ K, ∀ k, K ≤ k → spec_l07Values.f k l = some (allB 1000000 l) := by
  have go : ∀ (d k i : Nat), i + d = l.length → d < k → spec_l07Values.l0 k l i = some (allB 1000000 (l.drop i)) := by
    intro d
    induction d with
    | zero =>
      intro k i h2 h3
      obtain ⟨k, rfl⟩ : ∃ m, k = m + 1 := ⟨k - 1, by omega⟩
      simp only [spec_l07Values.l0]
      rw [if_neg (by omega), List.drop_eq_nil_of_le (by omega)]; rfl
    | succ d ih =>
      intro k i h2 h3
      obtain ⟨k, rfl⟩ : ∃ m, k = m + 1 := ⟨k - 1, by omega⟩
      simp only [spec_l07Values.l0]
      rw [if_pos (by omega), if_pos (by omega), in_eq, allB_drop _ _ _ (by omega), w64 (by omega) (by omega)]
      have := ih k (i + 1) (by omega) (by omega)
      rw [show ((i : Int) + 1) = ((i + 1 : Nat) : Int) from by omega, this]
      simp only [Option.bind_some]
      by_cases h : -1000000 ≤ rd l (i : Int) ∧ rd l (i : Int) ≤ 1000000
      · rw [decide_eq_true h]; simp
      · rw [decide_eq_false h]; simp
  exact ⟨l.length + 1, fun k hk => by
    have := go l.length k 0 (by omega) (by omega)
    simpa [spec_l07Values.f] using this⟩

theorem within_eq (m : Int) (hm : 0 ≤ m) (hm2 : m ≤ 1000000000000000000) (l : List Int) (hl : l.length ≤ 1048576) : ∃ K, ∀ k, K ≤ k → impl_within.f k m l = some (allB m l) := by
  have go : ∀ (d k i : Nat), i + d = l.length → d < k → impl_within.l0 k m l l.length i = some (allB m (l.drop i)) := by
    intro d
    induction d with
    | zero =>
      intro k i h2 h3
      obtain ⟨k, rfl⟩ : ∃ m, k = m + 1 := ⟨k - 1, by omega⟩
      simp only [impl_within.l0]
      rw [if_neg (by omega), List.drop_eq_nil_of_le (by omega)]; rfl
    | succ d ih =>
      intro k i h2 h3
      obtain ⟨k, rfl⟩ : ∃ m, k = m + 1 := ⟨k - 1, by omega⟩
      simp only [impl_within.l0]
      rw [if_pos (by omega), if_pos (by omega), if_pos (by omega), allB_drop _ _ _ (by omega), w64 (n := -m) (by omega) (by omega), w64 (by omega) (by omega)]
      have := ih k (i + 1) (by omega) (by omega)
      rw [show ((i : Int) + 1) = ((i + 1 : Nat) : Int) from by omega, this]
      by_cases h : rd l (i : Int) < -m
      · rw [if_pos h, decide_eq_false (by omega)]; rfl
      · rw [if_neg h]
        by_cases h' : rd l (i : Int) > m
        · rw [if_pos h', decide_eq_false (by omega)]; rfl
        · rw [if_neg h', decide_eq_true (by omega)]; rfl
  exact ⟨l.length + 1, fun k hk => by
    have := go l.length k 0 (by omega) (by omega)
    simpa [impl_within.f] using this⟩

/-- the code of a prime, a radius, and a list -/
def codeL (p r : Int) (l : List Int) (less least : Int) : Int :=
  if ¬ (p = 2 ∨ p = 3 ∨ p = 5 ∨ p = 7) then 1 else if r < least ∨ 4 < r then 2 else if (l.length : Int) + less = szN p r.toNat ∧ allB 1000000 l = true then (if szN p r.toNat > 500 then 3 else 0) else 2
theorem codeL_cases (p r : Int) (l : List Int) (less least : Int) : (codeL p r l less least = 0 ∧ (p = 2 ∨ p = 3 ∨ p = 5 ∨ p = 7) ∧ least ≤ r ∧ r ≤ 4 ∧ (l.length : Int) + less = szN p r.toNat ∧ szN p r.toNat ≤ 500 ∧ allB 1000000 l = true) ∨ codeL p r l less least = 1 ∨ codeL p r l less least = 2 ∨ codeL p r l less least = 3 := by
  unfold codeL
  by_cases h1 : (p = 2 ∨ p = 3 ∨ p = 5 ∨ p = 7)
  · rw [if_neg (not_not_intro h1)]
    by_cases h2 : r < least ∨ 4 < r
    · rw [if_pos h2]; simp
    · rw [if_neg h2]
      by_cases h3 : (l.length : Int) + less = szN p r.toNat ∧ allB 1000000 l = true
      · rw [if_pos h3]
        by_cases h4 : szN p r.toNat > 500
        · rw [if_pos h4]; simp
        · rw [if_neg h4]
          refine Or.inl ⟨rfl, h1, by omega, by omega, h3.1, by omega, h3.2⟩
      · rw [if_neg h3]; simp
  · rw [if_pos h1]; simp

theorem list_eq (p r : Int) (l : List Int) (less : Int) (hl : l.length ≤ 1048576) (hs : less = 0 ∨ less = 1) : ∃ K, ∀ k, K ≤ k → spec_l07List.f k p r l less = some (codeL p r l less 0) := by
  obtain ⟨K, hv⟩ := vals_eq l hl
  refine ⟨K + 8, fun k hk => ?_⟩
  unfold spec_l07List.f spec_l07Code.f
  obtain ⟨k, rfl⟩ : ∃ m, k = m + 1 := ⟨k - 1, by omega⟩
  rcases prime_cases p with ⟨h, hp⟩ | ⟨h, hp⟩
  · rw [h, in_eq]
    simp only [Option.bind_some, if_true]
    by_cases hr : 0 ≤ r ∧ r ≤ 4
    · have hb := szN_bd p r hp hr.1 hr.2
      rw [decide_eq_true hr, size_eq p r hp hr.1 hr.2 _ (by omega)]
      unfold codeL
      rw [if_neg (not_not_intro hp), if_neg (show ¬ (r < 0 ∨ 4 < r) by omega)]
      have hj : ∀ c, spec_l07List.j0 (k + 1) p r l less c false = some (if (l.length : Int) + less = szN p r.toNat ∧ allB 1000000 l = true then c else 2) := by
        intro c
        simp only [spec_l07List.j0]
        rw [if_neg (by simp), size_eq p r hp hr.1 hr.2 _ (by omega)]
        simp only [Option.bind_some]
        rw [w64 (by omega) (by omega), hv k (by omega)]
        by_cases e1 : (l.length : Int) + less = szN p r.toNat
        · rw [if_pos e1]
          simp only [Option.bind_some]
          by_cases e2 : allB 1000000 l = true
          · rw [if_pos e2, if_pos ⟨e1, e2⟩]
          · rw [if_neg e2, if_neg (fun h => e2 h.2)]
        · rw [if_neg e1, if_neg (fun h => e1 h.1)]
      by_cases h5 : szN p r.toNat > 500
      · simp [h5, hj]
      · simp [h5, hj]
    · rw [decide_eq_false hr]
      unfold codeL
      rw [if_neg (not_not_intro hp), if_pos (show (r < 0 ∨ 4 < r) by omega)]
      simp [spec_l07List.j0]
  · rw [h]
    unfold codeL
    rw [if_pos hp]
    simp [spec_l07List.j0]

theorem listCode_eq (p r least : Int) (l : List Int) (less : Int) (hl : l.length ≤ 1048576) (hs : less = 0 ∨ less = 1) (hle : 0 ≤ least) : ∃ K, ∀ k, K ≤ k → impl_listCode.f k p r least l less = some (codeL p r l less least) := by
  obtain ⟨K, hv⟩ := within_eq 1000000 (by omega) (by omega) l hl
  refine ⟨K + 8, fun k hk => ?_⟩
  unfold impl_listCode.f
  obtain ⟨k, rfl⟩ : ∃ m, k = m + 1 := ⟨k - 1, by omega⟩
  rw [isPrime_eq]
  have jt : impl_listCode.j0 (k + 1) p r true = some 2 := by simp [impl_listCode.j0]
  rcases prime_cases p with ⟨h, hp⟩ | ⟨h, hp⟩
  · rw [h]
    simp only [Option.bind_some, if_true]
    unfold codeL
    rw [if_neg (not_not_intro hp)]
    by_cases h1 : r < least
    · rw [if_pos h1, jt, if_pos (Or.inl h1)]
    · rw [if_neg h1]
      by_cases h2 : r > 4
      · rw [if_pos h2, jt, if_pos (Or.inr h2)]
      · rw [if_neg h2, if_neg (by omega), rsize_eq p r hp (by omega) (by omega) _ (by omega)]
        have hb := szN_bd p r hp (by omega) (by omega)
        simp only [Option.bind_some]
        rw [w64 (by omega) (by omega), hv (k + 1) (by omega)]
        by_cases e1 : (l.length : Int) + less = szN p r.toNat
        · rw [if_pos (by omega)]
          simp only [Option.bind_some]
          by_cases e2 : allB 1000000 l = true
          · rw [if_pos ⟨e1, e2⟩, e2]
            simp only [impl_listCode.j0, Bool.not_true]
            rw [if_neg (by simp), rsize_eq p r hp (by omega) (by omega) _ (by omega)]
            simp only [Option.bind_some]
            by_cases h5 : szN p r.toNat > 500
            · rw [if_pos h5, if_pos h5]
            · rw [if_neg h5, if_neg h5]
          · rw [if_neg (fun h => e2 h.2), Bool.eq_false_iff.mpr e2]; exact jt
        · rw [if_neg (by omega), jt, if_neg (fun h => e1 h.1)]
  · rw [h]
    unfold codeL
    rw [if_pos hp]
    simp

/-- the first child of a place, how many there are, and all of them -/
def fc (p i : Int) : Int := if i = 0 then 1 else p + 2 + (i - 1) * p
def cn (p i : Int) : Int := if i = 0 then p + 1 else p
def kids (p i : Int) (n : Nat) : List Int := (List.range n).map fun j : Nat => fc p i + (j : Int)
theorem fc_bd (p i : Int) (hp : p = 2 ∨ p = 3 ∨ p = 5 ∨ p = 7) (h0 : 0 ≤ i) (h1 : i ≤ 5000) : i < fc p i ∧ 1 ≤ fc p i ∧ fc p i ≤ 40000 ∧ 2 ≤ cn p i ∧ cn p i ≤ 8 ∧ fc p i + cn p i = p * i + p + 2 := by
  unfold fc cn
  rcases hp with rfl | rfl | rfl | rfl <;> split <;> omega
theorem kids_succ (p i : Int) (n : Nat) : kids p i (n + 1) = kids p i n ++ [fc p i + (n : Int)] := by
  unfold kids; rw [List.range_succ, List.map_append]; rfl
theorem kids_length (p i : Int) (n : Nat) : (kids p i n).length = n := by simp [kids]
theorem kids_rd (p i : Int) (n j : Nat) (h : j < n) : rd (kids p i n) (j : Int) = fc p i + (j : Int) := by
  have := rd_nat (kids p i n) j (by rw [kids_length]; exact h)
  simp only [kids, List.getElem?_map] at this
  rw [List.getElem?_range h] at this
  exact (Option.some.inj this).symm

theorem child_eq (p i : Int) (hp : p = 2 ∨ p = 3 ∨ p = 5 ∨ p = 7) (h0 : 0 ≤ i) (h1 : i ≤ 5000) : spec_l07Child.f p i = some (fc p i, cn p i) := by
  unfold spec_l07Child.f fc cn
  by_cases h : i = 0
  · rw [if_pos h, if_pos h, if_pos h, w64 (by omega) (by omega)]
  · rw [if_neg h, if_neg h, if_neg h, w64 (n := i - 1) (by omega) (by omega), w64 (n := p + 2) (by omega) (by omega)]
    have : 0 ≤ (i - 1) * p ∧ (i - 1) * p ≤ 50000 := by rcases hp with rfl | rfl | rfl | rfl <;> omega
    rw [w64 (n := (i - 1) * p) (by omega) (by omega), w64 (by omega) (by omega)]

theorem firstChild_eq (p i : Int) (hp : p = 2 ∨ p = 3 ∨ p = 5 ∨ p = 7) (h0 : 0 ≤ i) (h1 : i ≤ 5000) : impl_firstChild.f p i = some (fc p i) := by
  unfold impl_firstChild.f fc
  by_cases h : i = 0
  · rw [if_pos h, if_pos h]
  · rw [if_neg h, if_neg h, w64 (n := i - 1) (by omega) (by omega), w64 (n := p + 2) (by omega) (by omega)]
    have : 0 ≤ (i - 1) * p ∧ (i - 1) * p ≤ 50000 := by rcases hp with rfl | rfl | rfl | rfl <;> omega
    rw [w64 (n := (i - 1) * p) (by omega) (by omega), w64 (by omega) (by omega)]

theorem childPlaces_eq (p i : Int) (hp : p = 2 ∨ p = 3 ∨ p = 5 ∨ p = 7) (h0 : 0 ≤ i) (h1 : i ≤ 5000) : ∀ k, 12 ≤ k → impl_childPlaces.f k p i = some (kids p i (cn p i).toNat) := by
  have hb := fc_bd p i hp h0 h1
  have go : ∀ (d k j : Nat), j + d = (cn p i).toNat → d < k → impl_childPlaces.l0 k p i (kids p i j) (cn p i) j = some (kids p i (cn p i).toNat) := by
    intro d
    induction d with
    | zero =>
      intro k j h2 h3
      obtain ⟨k, rfl⟩ : ∃ m, k = m + 1 := ⟨k - 1, by omega⟩
      simp only [impl_childPlaces.l0]
      rw [if_neg (by omega)]
      obtain rfl : j = (cn p i).toNat := by omega
      rfl
    | succ d ih =>
      intro k j h2 h3
      obtain ⟨k, rfl⟩ : ∃ m, k = m + 1 := ⟨k - 1, by omega⟩
      simp only [impl_childPlaces.l0]
      rw [if_pos (by omega), firstChild_eq p i hp h0 h1]
      simp only [Option.bind_some]
      rw [if_pos (by rw [kids_length]; omega), w64 (by omega) (by omega), w64 (by omega) (by omega), ← kids_succ]
      exact ih k (j + 1) (by omega) (by omega)
  intro k hk
  obtain ⟨k, rfl⟩ : ∃ m, k = m + 1 := ⟨k - 1, by omega⟩
  have e := go (cn p i).toNat k 0 (by omega) (by omega)
  unfold impl_childPlaces.f
  by_cases h : i = 0
  · rw [if_pos h, w64 (by omega) (by omega)]
    simp only [impl_childPlaces.j0]
    have : cn p i = p + 1 := by unfold cn; rw [if_pos h]
    rw [this] at e ⊢; exact e
  · rw [if_neg h]
    simp only [impl_childPlaces.j0]
    have : cn p i = p := by unfold cn; rw [if_neg h]
    rw [this] at e ⊢; exact e

/-- a sum of so many values from a place on -/
def sumC (f : List Int) (a : Int) : Nat → Int → Int
  | 0, s => s
  | n + 1, s => sumC f (a + 1) n (wrap64 (s + rd f a))
theorem place_bd (p i : Int) (hp : p = 2 ∨ p = 3 ∨ p = 5 ∨ p = 7) (h0 : 1 ≤ i) (h1 : i ≤ 5000) : 0 ≤ (if i ≤ p + 1 then 0 else (i - p - 2) / p + 1) ∧ (if i ≤ p + 1 then 0 else (i - p - 2) / p + 1) < i := by
  rcases hp with rfl | rfl | rfl | rfl <;> split <;> omega

theorem all_drop {α : Type} (P : α → Bool) (l : List α) (i : Nat) (h : i < l.length) : (l.drop i).all P = (P (l[i]'h) && (l.drop (i + 1)).all P) := by
  rw [List.drop_eq_getElem_cons h]; rfl
theorem prDef (p : Int) : PM.Pr p = (p = 2 ∨ p = 3 ∨ p = 5 ∨ p = 7) := rfl
theorem tmod_zero_iff (n p : Int) : n.tmod p = 0 ↔ p ∣ n := Int.dvd_iff_tmod_eq_zero.symm

theorem pw_bd (p k : Int) (hp : Pr p) (h : k ≤ 20) : 1 ≤ pw p k ∧ pw p k ≤ 79792266297612001 := by
  have h1 := pw_pos2 hp k
  have h2 := pw_le hp h
  have h3 : pw p 20 ≤ 79792266297612001 := by
    rcases hp with rfl | rfl | rfl | rfl <;> decide +kernel
  omega
theorem pw_bd12 (p k : Int) (hp : Pr p) (h : k ≤ 12) : 1 ≤ pw p k ∧ pw p k ≤ 13841287201 := by
  have h1 := pw_pos2 hp k
  have h2 := pw_le hp h
  have h3 : pw p 12 ≤ 13841287201 := by
    rcases hp with rfl | rfl | rfl | rfl <;> decide +kernel
  omega
theorem pw_bd6 (p k : Int) (hp : Pr p) (h : k ≤ 6) : 1 ≤ pw p k ∧ pw p k ≤ 117649 := by
  have h1 := pw_pos2 hp k
  have h2 := pw_le hp h
  have h3 : pw p 6 ≤ 117649 := by
    rcases hp with rfl | rfl | rfl | rfl <;> decide +kernel
  omega
theorem pw_succ (p k : Int) (h : 0 ≤ k) : pw p (k + 1) = pw p k * p := by
  rw [pw_add h (by omega), pw_one]

theorem mx_neg (a : Int) (h : a.natAbs ≤ 9223372036854775807) : mx a (wrap64 (-a)) = (a.natAbs : Int) := by
  rw [w64 (by omega) (by omega)]; unfold mx; split <;> omega
theorem gcd_tmod (a b : Int) : Int.gcd b (a.tmod b) = Int.gcd a b := by
  have h := Int.gcd_add_mul_left_right b (a.tmod b) (a.tdiv b)
  rw [Int.tmod_add_mul_tdiv] at h
  rw [Int.gcd_comm a b]; exact h.symm

theorem isE_bd {n d : Int} (h : isE n d) : -1000000 ≤ n ∧ n ≤ 1000000 ∧ 0 ≤ d ∧ d ≤ 1000000 := by unfold isE at h; omega
theorem mul_bd {a b : Int} (h1 : -1000000 ≤ a) (h2 : a ≤ 1000000) (h3 : -1000000 ≤ b) (h4 : b ≤ 1000000) : -1000000000000 ≤ a * b ∧ a * b ≤ 1000000000000 := by
  have h : (a * b).natAbs ≤ 1000000 * 1000000 := by rw [Int.natAbs_mul]; exact Nat.mul_le_mul (by omega) (by omega)
  omega
def crs (n1 d1 n2 d2 : Int) : Int := n1 * d2 - n2 * d1
theorem crs_bd {n1 d1 n2 d2 : Int} (h1 : isE n1 d1) (h2 : isE n2 d2) : (crs n1 d1 n2 d2).natAbs ≤ 2000000000000 := by
  have a := isE_bd h1; have b := isE_bd h2
  have c := mul_bd (a := n1) (b := d2) (by omega) (by omega) (by omega) (by omega)
  have d := mul_bd (a := n2) (b := d1) (by omega) (by omega) (by omega) (by omega)
  unfold crs; omega
/-- two ends are the same if their cross is 0 -/
theorem crs_zero {n1 d1 n2 d2 : Int} (h1 : isE n1 d1) (h2 : isE n2 d2) (h : crs n1 d1 n2 d2 = 0) : n1 = n2 ∧ d1 = d2 := by
  unfold crs at h
  rcases h1 with ⟨a1, a2⟩ | ⟨a1, a2, a3, a4, a5⟩
  · rcases h2 with ⟨b1, b2⟩ | ⟨b1, b2, b3, b4, b5⟩
    · omega
    · subst a1 a2; simp at h; omega
  · rcases h2 with ⟨b1, b2⟩ | ⟨b1, b2, b3, b4, b5⟩
    · subst b1 b2; simp at h; omega
    · have e : n1 * d2 = n2 * d1 := by omega
      have e1 : d1 ∣ d2 := PM.dvd_of_dvd_mul_right_of_gcd_one (a := d1) (b := n1) (c := d2) ⟨n2, by rw [e, Int.mul_comm]⟩ (by rw [Int.gcd_comm]; exact a5)
      have e2 : d2 ∣ d1 := PM.dvd_of_dvd_mul_right_of_gcd_one (a := d2) (b := n2) (c := d1) ⟨n1, by rw [← e, Int.mul_comm]⟩ (by rw [Int.gcd_comm]; exact b5)
      have e3 : d1 = d2 := Int.dvd_antisymm (by omega) (by omega) e1 e2
      subst e3
      exact ⟨Int.eq_of_mul_eq_mul_right (by omega) e, rfl⟩

def gapz (p n1 d1 n2 d2 : Int) : Int := (vl p (crs n1 d1 n2 d2) : Int) - vl p d1 - vl p d2

theorem mul_bd2 {a b : Int} (A B : Int) (h1 : -A ≤ a) (h2 : a ≤ A) (h3 : -B ≤ b) (h4 : b ≤ B) : -(A * B) ≤ a * b ∧ a * b ≤ A * B := by
  have hA : 0 ≤ A := by omega
  have hB : 0 ≤ B := by omega
  have h : (a * b).natAbs ≤ A.natAbs * B.natAbs := by
    rw [Int.natAbs_mul]; exact Nat.mul_le_mul (by omega) (by omega)
  rw [← Int.natAbs_mul] at h
  have : 0 ≤ A * B := Int.mul_nonneg hA hB
  omega
theorem mn_min (a b : Int) : mn a b = min a b := by unfold mn; split <;> omega
theorem mx_max (a b : Int) : mx a b = max a b := by unfold mx; split <;> omega
theorem okb {p lv top dn : Int} (h : PM.Ok p ⟨lv, top, dn⟩) : -6 ≤ lv ∧ lv ≤ 6 ∧ 0 ≤ dn ∧ dn ≤ 6 ∧ 0 ≤ top := by
  unfold PM.Ok at h; simp only at h; omega
theorem ok_top {p lv top dn : Int} (hp : Pr p) (h : PM.Ok p ⟨lv, top, dn⟩) : 0 ≤ top ∧ top ≤ 13841287201 := by
  have hb := okb h
  have := pw_bd12 p (lv + dn) hp (by omega)
  unfold PM.Ok at h; simp only at h; omega
theorem mark_bd12 {p lv top dn : Int} (hp : Pr p) (h : PM.Ok p ⟨lv, top, dn⟩) : 0 ≤ PM.mark p ⟨lv, top, dn⟩ ∧ PM.mark p ⟨lv, top, dn⟩ ≤ 13841287201 := by
  have hb := okb h
  have := PM.mark_bd hp h
  have := pw_bd12 p (lv + 6) hp (by omega)
  simp only at *; omega

theorem tmod_fix (a m : Int) (hm : 0 < m) : (a.tmod m + m).tmod m = a % m ∧ -m < a.tmod m ∧ a.tmod m < m := by
  have h1 := Int.tmod_lt_of_pos a hm
  have h2 := Int.lt_tmod_of_pos a hm
  have h3 := Int.mul_tdiv_add_tmod a m
  refine ⟨?_, h2, h1⟩
  rw [Int.tmod_eq_emod_of_nonneg (by omega)]
  rw [show a.tmod m + m = a + m * (1 - a.tdiv m) by rw [Int.mul_sub]; omega, Int.add_mul_emod_self_left]
theorem em_mul (a b m : Int) : (a % m * b) % m = a * b % m := by rw [Int.mul_emod, Int.emod_emod, ← Int.mul_emod]
theorem emb (a m : Int) (hm : 0 < m) : 0 ≤ a % m ∧ a % m < m := ⟨Int.emod_nonneg _ (by omega), Int.emod_lt_of_pos _ hm⟩

theorem vl20 {p n : Int} (hp : Pr p) (h : n ≠ 0) (hb : n.natAbs ≤ 1000000) : vl p n ≤ 19 := by
  have := vl_le hp h (k := 20) (by
    have : (2 : Nat) ^ 20 = 1048576 := by decide
    omega)
  omega
theorem pwvl {p n : Int} (hp : Pr p) (h : n ≠ 0) : 0 < pw p (vl p n) ∧ pw p (vl p n) ≤ (n.natAbs : Int) := by
  refine ⟨pw_pos2 hp _, ?_⟩
  have := Int.le_of_dvd (by omega) (Int.dvd_natAbs.mpr (pw_vl_dvd hp h))
  exact this
theorem un_div {p n : Int} (hp : Pr p) (h : n ≠ 0) : n.tdiv (pw p (vl p n)) = un p n := by
  unfold un; rw [vz_of_ne h, Int.tdiv_eq_ediv_of_dvd (pw_vl_dvd hp h)]
theorem un_bd {p n : Int} (hp : Pr p) (h : n ≠ 0) : (un p n).natAbs ≤ n.natAbs := by
  obtain ⟨e, _⟩ := un_spec hp h
  have h1 := pwvl hp h
  have : n.natAbs = (pw p (vl p n)).natAbs * (un p n).natAbs := by rw [← Int.natAbs_mul, ← e]
  rw [this]
  exact Nat.le_mul_of_pos_left _ (by omega)

def brV (p lv x n d : Int) : Int := if d = 0 ∨ PM.turn p lv x n d < lv then 0 else 1 + (PM.dv p x n d / pw p (lv + 6 + vl p d)) * inv (un p d) p % p
theorem un_mul_pw {p n k : Int} (hp : Pr p) (hn : n ≠ 0) (hk : 0 ≤ k) : un p (pw p k * n) = un p n ∧ (vl p (pw p k * n) : Int) = k + vl p n := by
  have hq := pw_pos2 hp k
  have hv : (vl p (pw p k * n) : Int) = k + vl p n := by
    rw [vl_mul hp (by omega) hn]; have := PM.vl_pw hp k hk; omega
  refine ⟨?_, hv⟩
  unfold un
  rw [vz_of_ne (Int.mul_ne_zero (by omega) hn), hv, vz_of_ne hn, pw_add hk (by omega), Int.mul_ediv_mul_of_pos _ _ hq]
theorem turn_held {p lv x n d : Int} (hd : d ≠ 0) : ¬ PM.turn p lv x n d < lv ↔ (PM.dv p x n d = 0 ∨ lv + 6 + (vl p d : Int) ≤ vl p (PM.dv p x n d)) := by
  unfold PM.turn
  by_cases z : PM.dv p x n d = 0
  · rw [if_pos z]; omega
  · rw [if_neg z]; omega
theorem dv_bd {p x n d : Int} (hp : Pr p) (hx : 0 ≤ x ∧ x ≤ 13841287201) (he : isE n d) : (PM.dv p x n d).natAbs ≤ 15000000000000000 := by
  have hE := isE_bd he
  have h6 := pw_bd6 p 6 hp (by omega)
  have m1 := mul_bd2 (a := n) (b := pw p 6) 1000000 117649 (by omega) (by omega) (by omega) (by omega)
  have m2 := mul_bd2 (a := x) (b := d) 13841287201 1000000 (by omega) (by omega) (by omega) (by omega)
  unfold PM.dv; omega
theorem pwq {p lv d : Int} (hp : Pr p) (hd : d ≠ 0) (hb : d.natAbs ≤ 1000000) (hl : -6 ≤ lv ∧ lv ≤ 6) : 1 ≤ pw p (lv + 6 + vl p d) ∧ pw p (lv + 6 + vl p d) ≤ 13841287201 * 1000000 := by
  have h1 := pwvl hp hd
  have h2 := pw_bd12 p (lv + 6) hp (by omega)
  rw [pw_add (by omega) (by omega)]
  have h3 := mul_bd2 (a := pw p (lv + 6)) (b := pw p (vl p d)) 13841287201 1000000 (by omega) (by omega) (by omega) (by omega)
  have h4 := Int.mul_pos (show 0 < pw p (lv + 6) by omega) h1.1
  omega
theorem held_dvd {p lv x n d : Int} (hp : Pr p) (hd : d ≠ 0) (hl : -6 ≤ lv) (h : ¬ PM.turn p lv x n d < lv) : pw p (lv + 6 + vl p d) ∣ PM.dv p x n d := by
  rcases (turn_held hd).mp h with z | z
  · rw [z]; exact Int.dvd_zero _
  · by_cases z0 : PM.dv p x n d = 0
    · rw [z0]; exact Int.dvd_zero _
    · exact (le_vl_iff' hp z0 (by omega)).mp z

def enc : Option PM.Ball → Int × Int × Int × Bool
  | none => (0, 0, 0, false)
  | some b => (b.lv, b.top, b.dn, true)
def encC (c : Int) : Option PM.Ball → Int × Int × Int × Int
  | none => (0, 0, 0, c)
  | some b => (b.lv, b.top, b.dn, 0)

theorem about_ok {p l x : Int} {b : PM.Ball} (hp : Pr p) (h : PM.about p l x = some b) : PM.Ok p b ∧ b.lv = l ∧ PM.inLv l ∧ PM.mark p b = x % pw p (l + 6) := by
  unfold PM.about at h
  by_cases hl : PM.inLv l
  · rw [if_pos hl] at h
    obtain rfl := Option.some.inj h
    have hl' := hl
    unfold PM.inLv at hl'
    have hq := pw_pos2 hp (l + 6)
    obtain ⟨o1, o2⟩ := PM.ok_mk hp hl'.1 hl'.2 (Int.emod_nonneg x (b := pw p (l + 6)) (by omega)) (Int.emod_lt_of_pos x hq)
    exact ⟨o1, rfl, hl, o2⟩
  · rw [if_neg hl] at h; cases h
theorem brV_bd {p lv x n d : Int} (hp : Pr p) : 0 ≤ brV p lv x n d ∧ brV p lv x n d ≤ p := by
  have hpp := hp.pos
  unfold brV
  by_cases c : d = 0 ∨ PM.turn p lv x n d < lv
  · rw [if_pos c]; omega
  · rw [if_neg c]
    obtain ⟨a, b⟩ := emb (PM.dv p x n d / pw p (lv + 6 + vl p d) * inv (un p d) p) p (by omega)
    omega
/-- the next ball by a number: 0 for the parent -/
def nb (p : Int) (b : PM.Ball) (k : Int) : Option PM.Ball := if k = 0 then PM.about p (b.lv - 1) (PM.mark p b) else PM.about p (b.lv + 1) (PM.mark p b + (k - 1) * pw p (b.lv + 6))
theorem nb_ok {p k : Int} {b c : PM.Ball} (hp : Pr p) (h : nb p b k = some c) : PM.Ok p c := by
  unfold nb at h
  by_cases z : k = 0
  · rw [if_pos z] at h; exact (about_ok hp h).1
  · rw [if_neg z] at h; exact (about_ok hp h).1

theorem prime_dec (p : Int) : spec_l01Prime.f p = some (decide (Pr p)) := by
  rcases prime_cases p with ⟨h, h2⟩ | ⟨h, h2⟩
  · rw [h, decide_eq_true (show Pr p from h2)]
  · rw [h, decide_eq_false (show ¬ Pr p from h2)]

/-- sums over a list by a weight -/
def wS (g : Int → Int) : List Int → Int
  | [] => 0
  | x :: l => g x + wS g l
def ab (x : Int) : Int := if x < 0 then -x else x
theorem wS_append (g : Int → Int) : ∀ a b, wS g (a ++ b) = wS g a + wS g b
  | [], b => by simp [wS]
  | x :: a, b => by simp only [List.cons_append, wS, wS_append g a b]; omega
theorem wS_set (g : Int → Int) : ∀ (l : List Int) (i : Nat) (v : Int), i < l.length → wS g (l.set i v) = wS g l - g (l.getD i 0) + g v
  | [], i, v, h => by simp at h
  | x :: l, 0, v, h => by simp [wS]; omega
  | x :: l, i + 1, v, h => by
    have := wS_set g l i v (by simpa using h)
    simp only [List.set_cons_succ, wS, this, List.getD_cons_succ]; omega
theorem wS_take (g : Int → Int) (l : List Int) (i : Nat) (h : i < l.length) : wS g (l.take (i + 1)) = wS g (l.take i) + g (l.getD i 0) := by
  rw [List.take_succ_eq_append_getElem h, wS_append, List.getD_eq_getElem?_getD, List.getElem?_eq_getElem h]
  simp [wS]
theorem ab_nn (x : Int) : 0 ≤ ab x := by unfold ab; split <;> omega
theorem ab_bd (x : Int) : -(ab x) ≤ x ∧ x ≤ ab x := by unfold ab; split <;> omega
theorem ab_add (x y : Int) : ab (x + y) ≤ ab x + ab y := by unfold ab; split <;> split <;> split <;> omega
theorem ab_nnS : ∀ l, 0 ≤ wS ab l
  | [] => by simp [wS]
  | x :: l => by have := ab_nn x; have := ab_nnS l; simp only [wS]; omega
theorem ab_get : ∀ (l : List Int) (i : Nat), ab (l.getD i 0) ≤ wS ab l
  | [], i => by simp [wS, ab]
  | x :: l, 0 => by have := ab_nnS l; simp only [wS, List.getD_cons_zero]; omega
  | x :: l, i + 1 => by have := ab_nn x; have := ab_get l i; simp only [wS, List.getD_cons_succ]; omega
theorem ab_take (l : List Int) (i j : Nat) (h : j < i) : ab (l.getD j 0) ≤ wS ab (l.take i) := by
  have := ab_get (l.take i) j
  have e : (l.take i).getD j 0 = l.getD j 0 := by
    rw [List.getD_eq_getElem?_getD, List.getD_eq_getElem?_getD, List.getElem?_take_of_lt h]
  rwa [e] at this
def parI (p i : Int) : Int := if i ≤ p + 1 then 0 else (i - p - 2) / p + 1
theorem parI_bd {p i s : Int} (hp : p = 2 ∨ p = 3 ∨ p = 5 ∨ p = 7) (h1 : 1 ≤ i) (hs : 1 ≤ s) (h2 : i < p * s + 2) : 0 ≤ parI p i ∧ parI p i < i ∧ parI p i < s := by
  unfold parI
  rcases hp with rfl | rfl | rfl | rfl <;> split <;> omega
theorem parI_eq {p i : Int} (hp : p = 2 ∨ p = 3 ∨ p = 5 ∨ p = 7) (h0 : -1000000 ≤ i) (h1 : i ≤ 1000000) : spec_l07Parent.f p i = some (parI p i) := parent_eq p i hp h0 h1
theorem rdD (l : List Int) (i : Nat) : rd l (i : Int) = l.getD i 0 := by simp [rd]
/-- one place's value goes to its parent, from the last place on -/
def push (p : Int) : Nat → List Int → List Int
  | 0, L => L
  | i + 1, L => push p i (L.set (parI p ((i : Int) + 1)).toNat (L.getD (parI p ((i : Int) + 1)).toNat 0 + L.getD (i + 1) 0))
theorem push_len (p : Int) : ∀ i L, (push p i L).length = L.length
  | 0, L => rfl
  | i + 1, L => by unfold push; rw [push_len p i]; simp
theorem push_step {g : Int → Int} {L : List Int} {i q : Nat} (hq : q < i + 1) (hi : i + 1 < L.length) (v : Int) : wS g ((L.set q v).take (i + 1)) = wS g (L.take (i + 1 + 1)) - g (L.getD (i + 1) 0) - g (L.getD q 0) + g v := by
  rw [List.take_set, wS_set g _ q v (by rw [List.length_take]; omega), wS_take g L (i + 1) hi]
  have e : (L.take (i + 1)).getD q 0 = L.getD q 0 := by
    rw [List.getD_eq_getElem?_getD, List.getD_eq_getElem?_getD, List.getElem?_take_of_lt hq]
  rw [e]; omega
theorem push_sum {p s : Int} (hp : p = 2 ∨ p = 3 ∨ p = 5 ∨ p = 7) (hs : 1 ≤ s) : ∀ (i : Nat) (L : List Int), i < L.length → (L.length : Int) ≤ p * s + 2 → wS id ((push p i L).take 1) = wS id (L.take (i + 1))
  | 0, L, _, _ => rfl
  | i + 1, L, hi, hl => by
    obtain ⟨h0, h1, h2⟩ := parI_bd (i := (i : Int) + 1) hp (by omega) hs (by omega)
    unfold push
    rw [push_sum hp hs i _ (by simp; omega) (by simpa using hl), push_step (by omega) hi]
    simp only [id]; omega
theorem flow_impl {p s : Int} (hp : p = 2 ∨ p = 3 ∨ p = 5 ∨ p = 7) (hs : 1 ≤ s) (R : List Int × Int) (K : Nat) : ∀ (i : Nat) (L : List Int), i < L.length → (L.length : Int) ≤ p * s + 2 → L.length ≤ 5000 → wS ab (L.take (i + 1)) ≤ 10000000000 → (∀ k, K ≤ k → impl_FlowOfBoundary.l0 k p (push p i L) 0 = some R) → ∀ k, K + i ≤ k → impl_FlowOfBoundary.l0 k p L (i : Int) = some R
  | 0, L, _, _, _, _, H, k, hk => H k (by omega)
  | i + 1, L, hi, hl, h5, hb, H, k, hk => by
    obtain ⟨k, rfl⟩ : ∃ m, k = m + 1 := ⟨k - 1, by omega⟩
    obtain ⟨h0, h1, h2⟩ := parI_bd (i := (i : Int) + 1) hp (by omega) hs (by omega)
    have hst : ((i + 1 : Nat) : Int) = (i : Int) + 1 := by omega
    obtain ⟨q, hq⟩ := Int.eq_ofNat_of_zero_le h0
    have a1 := ab_take L (i + 1 + 1) (i + 1) (by omega)
    have a2 := ab_take L (i + 1 + 1) q (by omega)
    have b1 := ab_bd (L.getD (i + 1) 0)
    have b2 := ab_bd (L.getD q 0)
    have hab := ab_add (L.getD q 0) (L.getD (i + 1) 0)
    have hp2 := push_step (g := ab) (L := L) (i := i) (q := q) (by omega) hi (L.getD q 0 + L.getD (i + 1) 0)
    have ih := flow_impl hp hs R K i (L.set q (L.getD q 0 + L.getD (i + 1) 0)) (by simp; omega) (by simpa using hl) (by simpa using h5) (by omega) (fun k hk => by
      have := H k hk
      unfold push at this
      rw [hq] at this
      exact this) k (by omega)
    simp only [impl_FlowOfBoundary.l0]
    rw [if_pos (by omega), parentPlace_eq, hst, parI_eq hp (by omega) (by omega), hq]
    simp only [Option.bind_some]
    rw [if_pos (by omega), if_pos (by omega), if_pos (by omega), if_pos (by omega), rdD, show (i : Int) + 1 = ((i + 1 : Nat) : Int) by omega, rdD, w64 (n := L.getD q 0 + L.getD (i + 1) 0) (by omega) (by omega), w64 (n := ((i + 1 : Nat) : Int) - 1) (by omega) (by omega), show ((i + 1 : Nat) : Int) - 1 = (i : Int) by omega, Int.toNat_natCast]
    exact ih
/-- the reference's list, in which the boundary's values are not laid yet, beside the program's -/
def Rel (s : Nat) (vals : List Int) (i : Nat) (L M : List Int) : Prop := M.length = L.length ∧ ∀ j : Nat, j < L.length → (s ≤ j ∧ j ≤ i → L.getD j 0 = vals.getD (j - s) 0) ∧ (¬ (s ≤ j ∧ j ≤ i) → M.getD j 0 = L.getD j 0)
theorem set_getD (L : List Int) (q j : Nat) (v : Int) (hj : j < L.length) : (L.set q v).getD j 0 = if q = j then v else L.getD j 0 := by
  rw [List.getD_eq_getElem?_getD, List.getD_eq_getElem?_getD, List.getElem?_set]
  by_cases e : q = j
  · subst e; simp [hj]
  · simp [e]
theorem flow_spec {p : Int} {s : Nat} (hp : p = 2 ∨ p = 3 ∨ p = 5 ∨ p = 7) (hs : 1 ≤ s) (vals : List Int) (R : List Int × Int) (K : Nat) : ∀ (i : Nat) (L M : List Int), i < L.length → (L.length : Int) ≤ p * s + 2 → L.length ≤ 5000 → L.length = s + vals.length → wS ab (L.take (i + 1)) ≤ 10000000000 → Rel s vals i L M → (∀ k, K ≤ k → spec_FlowOfBoundary.l1 k p vals (s : Int) (push p i L) 0 = some R) → ∀ k, K + i ≤ k → spec_FlowOfBoundary.l1 k p vals (s : Int) M (i : Int) = some R
  | 0, L, M, hi, _, _, _, _, hr, H, k, hk => by
    have : M = L := by
      obtain ⟨e, h⟩ := hr
      apply List.ext_getElem e
      intro j h1 h2
      have := (h j h2).2 (by omega)
      simpa [List.getD_eq_getElem?_getD, h1, h2] using this
    subst this
    exact H k (by omega)
  | i + 1, L, M, hi, hl, h5, hv, hb, hr, H, k, hk => by
    obtain ⟨k, rfl⟩ : ∃ m, k = m + 1 := ⟨k - 1, by omega⟩
    obtain ⟨h0, h1, h2⟩ := parI_bd (i := (i : Int) + 1) (s := (s : Int)) hp (by omega) (by omega) (by omega)
    have hst : ((i + 1 : Nat) : Int) = (i : Int) + 1 := by omega
    obtain ⟨q, hq⟩ := Int.eq_ofNat_of_zero_le h0
    have a1 := ab_take L (i + 1 + 1) (i + 1) (by omega)
    have a2 := ab_take L (i + 1 + 1) q (by omega)
    have b1 := ab_bd (L.getD (i + 1) 0)
    have b2 := ab_bd (L.getD q 0)
    have hab := ab_add (L.getD q 0) (L.getD (i + 1) 0)
    have hp2 := push_step (g := ab) (L := L) (i := i) (q := q) (by omega) hi (L.getD q 0 + L.getD (i + 1) 0)
    obtain ⟨hrl, hre⟩ := hr
    have hH : ∀ k, K ≤ k → spec_FlowOfBoundary.l1 k p vals (s : Int) (push p i (L.set q (L.getD q 0 + L.getD (i + 1) 0))) 0 = some R := fun k hk => by
      have := H k hk
      unfold push at this
      rw [hq] at this
      exact this
    have hMq : M.getD q 0 = L.getD q 0 := (hre q (by omega)).2 (by omega)
    simp only [spec_FlowOfBoundary.l1]
    rw [if_pos (by omega), hst]
    by_cases c : (s : Int) ≤ (i : Int) + 1
    · have hLi : L.getD (i + 1) 0 = vals.getD (i + 1 - s) 0 := (hre (i + 1) hi).1 (by omega)
      have ih := flow_spec hp hs vals R K i (L.set q (L.getD q 0 + L.getD (i + 1) 0)) ((M.set (i + 1) (L.getD (i + 1) 0)).set q (L.getD q 0 + L.getD (i + 1) 0)) (by simp; omega) (by simpa using hl) (by simpa using h5) (by simpa using hv) (by omega) ⟨by simpa using hrl, fun j hj => by
        rw [List.length_set] at hj
        obtain ⟨r1, r2⟩ := hre j hj
        rw [set_getD L q j _ hj, set_getD _ q j _ (by simp; omega), set_getD M (i + 1) j _ (by omega)]
        refine ⟨fun z => ?_, fun z => ?_⟩
        · rw [if_neg (by omega)]; exact r1 (by omega)
        · by_cases e : q = j
          · rw [if_pos e, if_pos e]
          · rw [if_neg e, if_neg e]
            by_cases e2 : i + 1 = j
            · rw [if_pos e2, ← e2]
            · rw [if_neg e2]; exact r2 (by omega)⟩ hH k (by omega)
      rw [if_pos (by omega), w64 (n := (i : Int) + 1 - s) (by omega) (by omega), if_pos (by omega), if_pos (by omega), if_pos (by omega), if_pos (by omega), parI_eq hp (by omega) (by omega), hq]
      simp only [Option.bind_some]
      rw [if_pos (by omega), if_pos (by omega), show (i : Int) + 1 - s = ((i + 1 - s : Nat) : Int) by omega, rdD, ← hLi, show ((i : Int) + 1) = ((i + 1 : Nat) : Int) by omega, Int.toNat_natCast, Int.toNat_natCast, rdD, rdD, set_getD M (i + 1) q _ (by omega), if_neg (by omega), set_getD M (i + 1) (i + 1) _ (by omega), if_pos rfl, hMq, w64 (n := L.getD q 0 + L.getD (i + 1) 0) (by omega) (by omega), w64 (n := ((i + 1 : Nat) : Int) - 1) (by omega) (by omega), show ((i + 1 : Nat) : Int) - 1 = (i : Int) by omega]
      exact ih
    · have hMi : M.getD (i + 1) 0 = L.getD (i + 1) 0 := (hre (i + 1) hi).2 (by omega)
      have ih := flow_spec hp hs vals R K i (L.set q (L.getD q 0 + L.getD (i + 1) 0)) (M.set q (L.getD q 0 + L.getD (i + 1) 0)) (by simp; omega) (by simpa using hl) (by simpa using h5) (by simpa using hv) (by omega) ⟨by simpa using hrl, fun j hj => by
        rw [List.length_set] at hj
        obtain ⟨r1, r2⟩ := hre j hj
        rw [set_getD L q j _ hj, set_getD M q j _ (by omega)]
        refine ⟨fun z => by omega, fun z => ?_⟩
        by_cases e : q = j
        · rw [if_pos e, if_pos e]
        · rw [if_neg e, if_neg e]; exact r2 (by omega)⟩ hH k (by omega)
      rw [if_neg (by omega), parI_eq hp (by omega) (by omega), hq]
      simp only [Option.bind_some]
      rw [if_pos (by omega), if_pos (by omega), if_pos (by omega), if_pos (by omega), show ((i : Int) + 1) = ((i + 1 : Nat) : Int) by omega, rdD, rdD, hMq, hMi, Int.toNat_natCast, w64 (n := L.getD q 0 + L.getD (i + 1) 0) (by omega) (by omega), w64 (n := ((i + 1 : Nat) : Int) - 1) (by omega) (by omega), show ((i + 1 : Nat) : Int) - 1 = (i : Int) by omega]
      exact ih
theorem total_spec (p r : Int) (vals : List Int) (hl : vals.length ≤ 5000) (hb : wS ab vals ≤ 10000000000) (R : List Int × Int) (K : Nat) (H : ∀ k, K ≤ k → spec_FlowOfBoundary.l0 k p r vals (wS id vals) (vals.length : Int) = some R) : ∀ (d i : Nat), i + d = vals.length → ∀ k, K + d ≤ k → spec_FlowOfBoundary.l0 k p r vals (wS id (vals.take i)) (i : Int) = some R := by
  intro d
  induction d with
  | zero =>
    intro i hi k hk
    obtain rfl : i = vals.length := by omega
    rw [List.take_length]
    exact H k (by omega)
  | succ d ih =>
    intro i hi k hk
    obtain ⟨k, rfl⟩ : ∃ m, k = m + 1 := ⟨k - 1, by omega⟩
    have hs := ih (i + 1) (by omega) k (by omega)
    rw [wS_take id vals i (by omega)] at hs
    have bnd : ∀ n, -(wS ab (vals.take n)) ≤ wS id (vals.take n) ∧ wS id (vals.take n) ≤ wS ab (vals.take n) := by
      intro n
      generalize vals.take n = l
      induction l with
      | nil => simp [wS]
      | cons x l ihl => have := ab_bd x; simp only [wS, id]; omega
    have mono : ∀ n, wS ab (vals.take n) ≤ wS ab vals := by
      intro n
      have := wS_append ab (vals.take n) (vals.drop n)
      rw [List.take_append_drop] at this
      have := ab_nnS (vals.drop n)
      omega
    have h1 := bnd i
    have h2 := mono i
    have h3 := bnd (i + 1)
    have h4 := mono (i + 1)
    have hid : id (vals.getD i 0) = vals.getD i 0 := rfl
    rw [wS_take id vals i (by omega), hid] at h3
    rw [hid] at hs
    simp only [spec_FlowOfBoundary.l0]
    rw [if_pos (by omega), if_pos (by omega), rdD, w64 (n := wS id (vals.take i) + vals.getD i 0) (by omega) (by omega), w64 (n := (i : Int) + 1) (by omega) (by omega), show (i : Int) + 1 = ((i + 1 : Nat) : Int) by omega]
    exact hs
theorem allB_ab (m : Int) (hm : 0 ≤ m) : ∀ l, allB m l = true → wS ab l ≤ m * l.length
  | [], _ => by simp [wS]
  | x :: l, h => by
    simp only [allB, List.all_cons, Bool.and_eq_true, decide_eq_true_eq] at h
    have := allB_ab m hm l h.2
    have hx : ab x ≤ m := by unfold ab; split <;> omega
    simp only [wS, List.length_cons, Int.natCast_add, Int.natCast_one, Int.mul_add, Int.mul_one]; omega

namespace KR

/-- a sum without bounds -/
def sumI (f : List Int) (a : Int) : Nat → Int
  | 0 => 0
  | n + 1 => rd f a + sumI f (a + 1) n
theorem sumC_sumI (f : List Int) (hv : allB 1000000 f = true) : ∀ (n : Nat) (a s : Int), 0 ≤ a → a + n ≤ f.length → n ≤ 100 → -1000000 - 1000000 * (100 - (n : Int)) ≤ s → s ≤ 1000000 + 1000000 * (100 - (n : Int)) → sumC f a n s = s + sumI f a n
  | 0, a, s, _, _, _, _, _ => by simp [sumC, sumI]
  | n + 1, a, s, h0, h1, h2, h3, h4 => by
    have hb := allB_rd hv h0 (by omega)
    simp only [sumC, sumI]
    rw [w64 (by omega) (by omega), sumC_sumI f hv n (a + 1) (s + rd f a) (by omega) (by omega) (by omega) (by omega) (by omega)]
    omega
/-- the rule at the places from one on -/
def keepsM (p : Int) (f : List Int) : Nat → Nat → Bool
  | 0, _ => true
  | d + 1, i => if sumI f (fc p i - 1) (cn p i).toNat = (if (i : Int) > 0 then rd f ((i : Int) - 1) else 0) then keepsM p f d (i + 1) else false
def res (p r : Int) (f : List Int) : Bool × Int :=
  if codeL p r f 1 0 = 0 then (if r = 0 then (true, 0) else (keepsM p f (szN p (r - 1).toNat).toNat 0, 0)) else (false, codeL p r f 1 0)
theorem spec_res (p r : Int) (f : List Int) (hl : f.length ≤ 1048576) : ∃ K, ∀ k, K ≤ k → spec_KeepsRule.f k p r f = some (res p r f) := by
  obtain ⟨K, hK⟩ := list_eq p r f 1 hl (Or.inr rfl)
  rcases codeL_cases p r f 1 0 with ⟨e, hp, h0, h1, h2, h3, h4⟩ | e | e | e
  · by_cases hr : r = 0
    · refine ⟨K + 4, fun k hk => ?_⟩
      obtain ⟨k, rfl⟩ : ∃ m, k = m + 2 := ⟨k - 2, by omega⟩
      unfold spec_KeepsRule.f res
      rw [hK _ (by omega), e]; simp [hr, spec_KeepsRule.l0, spec_KeepsRule.j1]
    · have hb := szN_bd p (r - 1) hp (by omega) (by omega)
      generalize hN : (szN p (r - 1).toNat).toNat = N
      have hstp : ∀ i : Nat, i < N → p * (i : Int) + p + 2 ≤ szN p r.toNat := fun i hi => (szN_step p r hp (by omega) (by omega) (i := i) (by omega)).1
      have l1 : ∀ (d k i j : Nat) (s : Int), i < N → j + d = (cn p i).toNat → spec_KeepsRule.l1 (k + d + 1) p r f i s (fc p i) (cn p i) j = if sumC f (fc p i + j - 1) d s = (if (i : Int) > 0 then rd f ((i : Int) - 1) else 0) then spec_KeepsRule.l0 k p r f ((i + 1 : Nat) : Int) else some (false, 0) := by
        intro d
        induction d with
        | zero =>
          intro k i j s hi hj
          have := hstp i hi
          simp only [spec_KeepsRule.l1]
          rw [if_neg (by omega)]
          simp only [sumC]
          by_cases hpos : (i : Int) > 0
          · have hf := fc_bd p i hp (by omega) (by omega)
            rw [if_pos hpos, if_pos hpos, w64 (n := (i : Int) - 1) (by omega) (by omega), if_pos (by omega), if_pos (by omega), if_neg (show ¬ ((i : Int) = 0) by omega), w64 (n := (i : Int) + 1) (by omega) (by omega)]
            rfl
          · rw [if_neg hpos, if_neg hpos, if_pos (show ((i : Int) = 0) by omega), w64 (n := (i : Int) + 1) (by omega) (by omega)]
            rfl
        | succ d ih =>
          intro k i j s hi hj
          have := hstp i hi
          have hf := fc_bd p i hp (by omega) (by omega)
          rw [show k + (d + 1) + 1 = (k + d + 1) + 1 from rfl]
          rw [spec_KeepsRule.l1]
          rw [if_pos (by omega), w64 (n := fc p i + j) (by omega) (by omega), w64 (n := fc p i + j - 1) (by omega) (by omega), if_pos (by omega), if_pos (by omega), w64 (n := (j : Int) + 1) (by omega) (by omega)]
          have := ih k i (j + 1) (wrap64 (s + rd f (fc p i + j - 1))) hi (by omega)
          rw [show ((j : Int) + 1) = ((j + 1 : Nat) : Int) from by omega, this]
          rw [show (fc p i + ((j + 1 : Nat) : Int) - 1) = fc p i + j - 1 + 1 from by omega]
          rfl
      have l0 : ∀ (d i k : Nat), i + d = N → 16 * d + 16 ≤ k → spec_KeepsRule.l0 k p r f i = some (keepsM p f d i, 0) := by
        intro d
        induction d with
        | zero =>
          intro i k h2 h3
          obtain ⟨k, rfl⟩ : ∃ m, k = m + 2 := ⟨k - 2, by omega⟩
          simp only [spec_KeepsRule.l0]
          rw [if_pos (by omega), w64 (n := r - 1) (by omega) (by omega), size_eq p (r - 1) hp (by omega) (by omega) _ (by omega)]
          simp only [Option.bind_some]
          rw [decide_eq_false (by omega)]
          simp [spec_KeepsRule.j1, keepsM]
        | succ d ih =>
          intro i k h2 h3
          obtain ⟨k, rfl⟩ : ∃ m, k = m + 2 := ⟨k - 2, by omega⟩
          have := hstp i (by omega)
          have hf := fc_bd p i hp (by omega) (by omega)
          simp only [spec_KeepsRule.l0]
          rw [if_pos (by omega), w64 (n := r - 1) (by omega) (by omega), size_eq p (r - 1) hp (by omega) (by omega) _ (by omega)]
          simp only [Option.bind_some]
          rw [decide_eq_true (by omega)]
          simp only [spec_KeepsRule.j1]
          rw [if_pos trivial, child_eq p i hp (by omega) (by omega)]
          simp only [Option.bind_some]
          have := l1 (cn p i).toNat (k - (cn p i).toNat - 1) i 0 0 (by omega) (by omega)
          rw [show k - (cn p i).toNat - 1 + (cn p i).toNat + 1 = k from by omega, show (fc p i + ((0 : Nat) : Int) - 1) = fc p i - 1 from by omega, sumC_sumI f h4 _ _ _ (by omega) (by omega) (by omega) (by omega) (by omega), Int.zero_add] at this
          rw [show ((0 : Nat) : Int) = 0 from rfl] at this
          rw [this]
          simp only [keepsM]
          by_cases hq : sumI f (fc p i - 1) (cn p i).toNat = (if (i : Int) > 0 then rd f ((i : Int) - 1) else 0)
          · rw [if_pos hq, if_pos hq]
            exact ih (i + 1) _ (by omega) (by omega)
          · rw [if_neg hq, if_neg hq]
      refine ⟨K + 16 * N + 18, fun k hk => ?_⟩
      unfold spec_KeepsRule.f res
      rw [hK _ (by omega), e, if_pos rfl, if_neg hr, hN]
      simp only [Option.bind_some, if_true]
      exact l0 N 0 k (by omega) (by omega)
  · refine ⟨K, fun k hk => ?_⟩
    unfold spec_KeepsRule.f res
    rw [hK _ (by omega), e]; simp
  · refine ⟨K, fun k hk => ?_⟩
    unfold spec_KeepsRule.f res
    rw [hK _ (by omega), e]; simp
  · refine ⟨K, fun k hk => ?_⟩
    unfold spec_KeepsRule.f res
    rw [hK _ (by omega), e]; simp
theorem impl_res (p r : Int) (f : List Int) (hl : f.length ≤ 1048576) : ∃ K, ∀ k, K ≤ k → impl_KeepsRule.f k p r f = some (res p r f) := by
  obtain ⟨K, hK⟩ := listCode_eq p r 0 f 1 hl (Or.inr rfl) (by omega)
  rcases codeL_cases p r f 1 0 with ⟨e, hp, h0, h1, h2, h3, h4⟩ | e | e | e
  · by_cases hr : r = 0
    · refine ⟨K + 4, fun k hk => ?_⟩
      unfold impl_KeepsRule.f res
      rw [hK _ (by omega), e]; simp [hr]
    · have hb := szN_bd p (r - 1) hp (by omega) (by omega)
      generalize hN : (szN p (r - 1).toNat).toNat = N
      have hM : szN p (r - 1).toNat = (N : Int) := by omega
      have hstp : ∀ i : Nat, i < N → p * (i : Int) + p + 2 ≤ szN p r.toNat := fun i hi => (szN_step p r hp (by omega) (by omega) (i := i) (by omega)).1
      have l1 : ∀ (d k i j : Nat) (s : Int), i < N → j + d = (cn p i).toNat → impl_KeepsRule.l1 (k + d + 1) p f s N i (kids p i (cn p i).toNat) ((kids p i (cn p i).toNat).length : Int) j = if sumC f (fc p i + j - 1) d s = 0 then impl_KeepsRule.l0 k p f N ((i + 1 : Nat) : Int) else some (false, 0) := by
        intro d
        induction d with
        | zero =>
          intro k i j s hi hj
          simp only [impl_KeepsRule.l1]
          rw [if_neg (by rw [kids_length]; omega), w64 (n := (i : Int) + 1) (by omega) (by omega)]
          rfl
        | succ d ih =>
          intro k i j s hi hj
          have := hstp i hi
          have hf := fc_bd p i hp (by omega) (by omega)
          rw [show k + (d + 1) + 1 = (k + d + 1) + 1 from rfl]
          rw [impl_KeepsRule.l1]
          rw [kids_rd p i _ j (by omega)]
          rw [if_pos (by rw [kids_length]; omega), if_pos (by omega), if_pos (by rw [kids_length]; omega), w64 (n := fc p i + j - 1) (by omega) (by omega), if_pos (by omega), if_pos (by omega), w64 (n := (j : Int) + 1) (by omega) (by omega)]
          have := ih k i (j + 1) (wrap64 (s + rd f (fc p i + j - 1))) hi (by omega)
          rw [show ((j : Int) + 1) = ((j + 1 : Nat) : Int) from by omega, this]
          rw [show (fc p i + ((j + 1 : Nat) : Int) - 1) = fc p i + j - 1 + 1 from by omega]
          rfl
      have l0 : ∀ (d i k : Nat), i + d = N → 16 * d + 16 ≤ k → impl_KeepsRule.l0 k p f N i = some (keepsM p f d i, 0) := by
        intro d
        induction d with
        | zero =>
          intro i k h2 h3
          obtain ⟨k, rfl⟩ : ∃ m, k = m + 2 := ⟨k - 2, by omega⟩
          simp only [impl_KeepsRule.l0]
          rw [if_neg (by omega)]
          rfl
        | succ d ih =>
          intro i k h2 h3
          obtain ⟨k, rfl⟩ : ∃ m, k = m + 2 := ⟨k - 2, by omega⟩
          have := hstp i (by omega)
          have hf := fc_bd p i hp (by omega) (by omega)
          have hj : ∀ s, -1000000 ≤ s → s ≤ 1000000 → impl_KeepsRule.j1 (k + 1) p f i s N i = if s + sumI f (fc p i - 1) (cn p i).toNat = 0 then impl_KeepsRule.l0 (k - (cn p i).toNat - 1) p f N ((i + 1 : Nat) : Int) else some (false, 0) := by
            intro s hs1 hs2
            simp only [impl_KeepsRule.j1]
            rw [childPlaces_eq p i hp (by omega) (by omega) _ (by omega)]
            simp only [Option.bind_some]
            have := l1 (cn p i).toNat (k - (cn p i).toNat - 1) i 0 s (by omega) (by omega)
            rw [show k - (cn p i).toNat - 1 + (cn p i).toNat + 1 = k from by omega, show (fc p i + ((0 : Nat) : Int) - 1) = fc p i - 1 from by omega, sumC_sumI f h4 _ _ _ (by omega) (by omega) (by omega) (by omega) (by omega)] at this
            exact this
          simp only [impl_KeepsRule.l0]
          rw [if_pos (by omega)]
          simp only [keepsM]
          by_cases hpos : (i : Int) > 0
          · have hv := allB_rd h4 (i := (i : Int) - 1) (by omega) (by omega)
            rw [if_pos hpos, if_pos hpos, w64 (n := (i : Int) - 1) (by omega) (by omega), if_pos (by omega), if_pos (by omega), w64 (n := -rd f ((i : Int) - 1)) (by omega) (by omega), hj _ (by omega) (by omega)]
            by_cases hq : sumI f (fc p i - 1) (cn p i).toNat = rd f ((i : Int) - 1)
            · rw [if_pos hq, if_pos (by omega)]
              exact ih (i + 1) _ (by omega) (by omega)
            · rw [if_neg hq, if_neg (by omega)]
          · rw [if_neg hpos, if_neg hpos, hj _ (by omega) (by omega), Int.zero_add]
            by_cases hq : sumI f (fc p i - 1) (cn p i).toNat = 0
            · rw [if_pos hq, if_pos hq]
              exact ih (i + 1) _ (by omega) (by omega)
            · rw [if_neg hq, if_neg hq]
      refine ⟨K + 16 * N + 18, fun k hk => ?_⟩
      unfold impl_KeepsRule.f res
      rw [hK _ (by omega), e, if_pos rfl, if_neg hr, hN]
      simp only [Option.bind_some, if_true]
      rw [if_neg hr, w64 (by omega) (by omega), rsize_eq p (r - 1) hp (by omega) (by omega) _ (by omega), hM]
      simp only [Option.bind_some]
      exact l0 N 0 k (by omega) (by omega)
  · refine ⟨K, fun k hk => ?_⟩
    unfold impl_KeepsRule.f res
    rw [hK _ (by omega), e]; simp
  · refine ⟨K, fun k hk => ?_⟩
    unfold impl_KeepsRule.f res
    rw [hK _ (by omega), e]; simp
  · refine ⟨K, fun k hk => ?_⟩
    unfold impl_KeepsRule.f res
    rw [hK _ (by omega), e]; simp
end KR
namespace FL

def szs (p r : Int) : Nat := (szN p (r - 1).toNat).toNat
def flowL (p r : Int) (f : List Int) : List Int := push p (szs p r + f.length - 1) (List.replicate (szs p r) 0 ++ f)
def res (p r : Int) (f : List Int) : List Int × Int :=
  if (p = 2 ∨ p = 3 ∨ p = 5 ∨ p = 7) then (if 1 ≤ r ∧ r ≤ 4 then (if (f.length : Int) = szN p r.toNat - szN p (r - 1).toNat ∧ allB 1000000 f = true then (if szN p r.toNat > 500 then ([], 3) else (if wS id f = 0 then (if allB 1000000 ((flowL p r f).drop 1) = true then ((flowL p r f).drop 1, 0) else ([], 3)) else ([], 5))) else ([], 2)) else ([], 2)) else ([], 1)
theorem res_length (p r : Int) (f : List Int) (hl : f.length ≤ 1048576) : (res p r f).1.length ≤ 1048576 := by
  unfold res
  by_cases c1 : p = 2 ∨ p = 3 ∨ p = 5 ∨ p = 7
  · rw [if_pos c1]
    by_cases c2 : 1 ≤ r ∧ r ≤ 4
    · rw [if_pos c2]
      have hb := szN_bd p (r - 1) c1 (by omega) (by omega)
      have hb2 := szN_bd p r c1 (by omega) (by omega)
      by_cases c3 : (f.length : Int) = szN p r.toNat - szN p (r - 1).toNat ∧ allB 1000000 f = true
      · rw [if_pos c3]
        by_cases c4 : szN p r.toNat > 500
        · rw [if_pos c4]; simp
        · rw [if_neg c4]
          by_cases c5 : wS id f = 0
          · rw [if_pos c5]
            by_cases c6 : allB 1000000 ((flowL p r f).drop 1) = true
            · rw [if_pos c6]
              simp only [List.length_drop]
              unfold flowL szs
              rw [push_len, List.length_append, List.length_replicate]
              omega
            · rw [if_neg c6]; simp
          · rw [if_neg c5]; simp
      · rw [if_neg c3]; simp
    · rw [if_neg c2]; simp
  · rw [if_neg c1]; simp
theorem l07Code_e (p r : Int) : ∀ k, 6 ≤ k → spec_l07Code.f k p r = some (if (p = 2 ∨ p = 3 ∨ p = 5 ∨ p = 7) then (if 0 ≤ r ∧ r ≤ 4 then (if szN p r.toNat > 500 then 3 else 0) else 2) else 1) := by
  intro k hk
  unfold spec_l07Code.f
  rcases prime_cases p with ⟨e, h⟩ | ⟨e, h⟩
  · rw [e, if_pos h, in_eq]
    simp only [Option.bind_some, if_true]
    by_cases c : 0 ≤ r ∧ r ≤ 4
    · rw [decide_eq_true c, if_pos rfl, if_pos c, size_eq p r h c.1 c.2 k hk]
      simp only [Option.bind_some]
      split <;> rfl
    · rw [decide_eq_false c, if_neg (by simp), if_neg c]
  · rw [e, if_neg h]; simp
/-- all that both programs know when the boundary is laid -/
theorem setup {p r : Int} {f : List Int} (c1 : p = 2 ∨ p = 3 ∨ p = 5 ∨ p = 7) (c2 : 1 ≤ r ∧ r ≤ 4) (c3 : (f.length : Int) = szN p r.toNat - szN p (r - 1).toNat) (c4 : allB 1000000 f = true) :
    1 ≤ szs p r ∧ (szs p r : Int) = szN p (r - 1).toNat ∧ szN p r.toNat = p * (szs p r : Int) + 2 ∧ (szs p r + f.length : Nat) = (szN p r.toNat).toNat ∧ szs p r + f.length ≤ 5000 ∧ 1 ≤ f.length ∧ wS ab f ≤ 10000000000 ∧ wS ab (List.replicate (szs p r) 0 ++ f) ≤ 10000000000 ∧ wS id (List.replicate (szs p r) 0 ++ f) = wS id f := by
  have hb := szN_bd p (r - 1) c1 (by omega) (by omega)
  have hb2 := szN_bd p r c1 (by omega) (by omega)
  have hs := szN_succ p r c2.1
  have hz : (szs p r : Int) = szN p (r - 1).toNat := by unfold szs; omega
  have hw := allB_ab 1000000 (by omega) f c4
  have hr : ∀ (g : Int → Int) n, g 0 = 0 → wS g (List.replicate n 0) = 0 := by
    intro g n hg
    induction n with
    | zero => rfl
    | succ n ih => rw [List.replicate_succ]; simp only [wS, ih, hg]; rfl
  have h1 : 1 ≤ f.length := by
    rcases c1 with rfl | rfl | rfl | rfl <;> omega
  refine ⟨by omega, hz, by rw [hs, hz], by omega, by omega, h1, by omega, ?_, ?_⟩
  · rw [wS_append, hr ab _ rfl]; omega
  · rw [wS_append, hr id _ rfl]; omega
theorem flow_head {p r : Int} {f : List Int} (c1 : p = 2 ∨ p = 3 ∨ p = 5 ∨ p = 7) (c2 : 1 ≤ r ∧ r ≤ 4) (c3 : (f.length : Int) = szN p r.toNat - szN p (r - 1).toNat) (c4 : allB 1000000 f = true) : (flowL p r f).getD 0 0 = wS id f ∧ (flowL p r f).length = szs p r + f.length := by
  obtain ⟨s1, s2, s3, s4, s5, s6, s7, s8, s9⟩ := setup c1 c2 c3 c4
  have hlen : (flowL p r f).length = szs p r + f.length := by
    unfold flowL; rw [push_len, List.length_append, List.length_replicate]
  refine ⟨?_, hlen⟩
  have hp := push_sum (p := p) (s := (szs p r : Int)) c1 (by omega) (szs p r + f.length - 1) (List.replicate (szs p r) 0 ++ f) (by rw [List.length_append, List.length_replicate]; omega) (by rw [List.length_append, List.length_replicate]; omega)
  rw [List.take_of_length_le (l := List.replicate (szs p r) 0 ++ f) (by rw [List.length_append, List.length_replicate]; omega), s9] at hp
  have ht := wS_take id (flowL p r f) 0 (by omega)
  rw [List.take_zero] at ht
  unfold flowL at *
  rw [hp] at ht
  simpa [wS] using ht.symm
theorem res_pos (p r : Int) (f : List Int) (hl : f.length ≤ 1048576) (h : (res p r f).2 = 0) : (res p r f).1.length ≠ 0 := by
  unfold res at *
  by_cases c1 : p = 2 ∨ p = 3 ∨ p = 5 ∨ p = 7
  · rw [if_pos c1] at *
    by_cases c2 : 1 ≤ r ∧ r ≤ 4
    · rw [if_pos c2] at *
      by_cases c3 : (f.length : Int) = szN p r.toNat - szN p (r - 1).toNat ∧ allB 1000000 f = true
      · obtain ⟨s1, s2, s3, s4, s5, s6, s7, s8, s9⟩ := setup c1 c2 c3.1 c3.2
        obtain ⟨f1, f2⟩ := flow_head c1 c2 c3.1 c3.2
        rw [if_pos c3] at *
        by_cases c4 : szN p r.toNat > 500
        · rw [if_pos c4] at h; simp at h
        · rw [if_neg c4] at *
          by_cases c5 : wS id f = 0
          · rw [if_pos c5] at *
            by_cases c6 : allB 1000000 ((flowL p r f).drop 1) = true
            · rw [if_pos c6]; simp only [List.length_drop]; omega
            · rw [if_neg c6] at h; simp at h
          · rw [if_neg c5] at h; simp at h
      · rw [if_neg c3] at h; simp at h
    · rw [if_neg c2] at h; simp at h
  · rw [if_neg c1] at h; simp at h
theorem drop_one (l : List Int) (h : l.getD 0 0 = 0) (hl : 1 ≤ l.length) : allB 1000000 l = allB 1000000 (l.drop 1) := by
  cases l with
  | nil => simp at hl
  | cons x l =>
    obtain rfl : x = 0 := by simpa using h
    simp [allB]
theorem spec_res (p r : Int) (f : List Int) (hl : f.length ≤ 1048576) : ∃ K, ∀ k, K ≤ k → spec_FlowOfBoundary.f k p r f = some (res p r f) := by
  obtain ⟨Kv, hv⟩ := vals_eq f hl
  by_cases c1 : p = 2 ∨ p = 3 ∨ p = 5 ∨ p = 7
  case neg =>
    refine ⟨6, fun k hk => ?_⟩
    unfold spec_FlowOfBoundary.f res
    rw [l07Code_e p r k hk, if_neg c1, if_neg c1]; rfl
  by_cases c2 : 1 ≤ r ∧ r ≤ 4
  case neg =>
    refine ⟨7, fun k hk => ?_⟩
    obtain ⟨k, rfl⟩ : ∃ m, k = m + 1 := ⟨k - 1, by omega⟩
    unfold spec_FlowOfBoundary.f res
    rw [l07Code_e p r _ (by omega), if_pos c1, if_pos c1, if_neg c2]
    simp only [Option.bind_some]
    by_cases c0 : 0 ≤ r ∧ r ≤ 4
    · rw [if_pos c0]
      have hr : r < 1 := by omega
      have hcode : ∀ x : Int, x ≠ 1 → x ≠ 2 → (if x = 1 then some (([] : List Int), x) else if x = 2 then spec_FlowOfBoundary.j0 (k + 1) p r f x true else if r < 1 then spec_FlowOfBoundary.j0 (k + 1) p r f x true else ((spec_l07Size.f (k + 1) p r).bind fun t817 => ((spec_l07Size.f (k + 1) p (wrap64 (r - 1))).bind fun t818 => (if (f.length : Int) = (wrap64 (t817 - t818)) then ((spec_l07Values.f (k + 1) f).bind fun t819 => (spec_FlowOfBoundary.j0 (k + 1) p r f x (!t819))) else (spec_FlowOfBoundary.j0 (k + 1) p r f x true))))) = some ([], 2) := by
        intro x h1 h2
        rw [if_neg h1, if_neg h2, if_pos hr]
        simp only [spec_FlowOfBoundary.j0]; rw [if_pos trivial]
      exact hcode _ (by split <;> omega) (by split <;> omega)
    · rw [if_neg c0, if_neg (by omega), if_pos rfl]
      simp only [spec_FlowOfBoundary.j0]; rw [if_pos trivial]
  have hb := szN_bd p (r - 1) c1 (by omega) (by omega)
  have hb2 := szN_bd p r c1 (by omega) (by omega)
  have hcd : ∀ k, 6 ≤ k → spec_l07Code.f k p r = some (if szN p r.toNat > 500 then 3 else 0) := fun k hk => by rw [l07Code_e p r k hk, if_pos c1, if_pos (by omega)]
  have hx1 : (if szN p r.toNat > 500 then (3 : Int) else 0) ≠ 1 := by split <;> omega
  have hx2 : (if szN p r.toNat > 500 then (3 : Int) else 0) ≠ 2 := by split <;> omega
  by_cases c3 : (f.length : Int) = szN p r.toNat - szN p (r - 1).toNat ∧ allB 1000000 f = true
  case neg =>
    refine ⟨Kv + 7, fun k hk => ?_⟩
    obtain ⟨k, rfl⟩ : ∃ m, k = m + 1 := ⟨k - 1, by omega⟩
    unfold spec_FlowOfBoundary.f res
    rw [hcd _ (by omega), if_pos c1, if_pos c2, if_neg c3]
    simp only [Option.bind_some]
    rw [if_neg hx1, if_neg hx2, if_neg (by omega), size_eq p r c1 (by omega) (by omega) _ (by omega), w64 (n := r - 1) (by omega) (by omega), size_eq p (r - 1) c1 (by omega) (by omega) _ (by omega)]
    simp only [Option.bind_some]
    rw [w64 (n := szN p r.toNat - szN p (r - 1).toNat) (by omega) (by omega)]
    by_cases c5 : (f.length : Int) = szN p r.toNat - szN p (r - 1).toNat
    · have c6 : allB 1000000 f = false := by
        cases h : allB 1000000 f with
        | true => exact absurd ⟨c5, h⟩ c3
        | false => rfl
      rw [if_pos c5, hv _ (by omega), c6]
      simp only [Option.bind_some, spec_FlowOfBoundary.j0]; rw [if_pos (by simp)]
    · rw [if_neg c5]
      simp only [spec_FlowOfBoundary.j0]; rw [if_pos trivial]
  obtain ⟨s1, s2, s3, s4, s5, s6, s7, s8, s9⟩ := setup c1 c2 c3.1 c3.2
  obtain ⟨f1, f2⟩ := flow_head c1 c2 c3.1 c3.2
  obtain ⟨Kw, hw⟩ := vals_eq ((flowL p r f).drop 1) (by rw [List.length_drop]; omega)
  have hend : ∀ k, Kw + 1 ≤ k → spec_FlowOfBoundary.l1 k p f (szs p r : Int) (flowL p r f) 0 = some (if allB 1000000 ((flowL p r f).drop 1) = true then ((flowL p r f).drop 1, 0) else ([], 3)) := fun k hk => by
    obtain ⟨k, rfl⟩ : ∃ m, k = m + 1 := ⟨k - 1, by omega⟩
    simp only [spec_FlowOfBoundary.l1]
    rw [if_neg (by omega), if_pos (by omega)]
    unfold spec_l01Own.f
    simp only [Option.bind_some, List.nil_append]
    rw [if_pos (by rw [List.length_nil, List.length_drop]; omega)]
    simp only [Option.bind_some]
    rw [hw k (by omega)]
    simp only [Option.bind_some]
    split <;> rfl
  have hl1 : ∀ k, Kw + 1 + 5000 ≤ k → spec_FlowOfBoundary.l1 k p f (szs p r : Int) (List.replicate (szN p r.toNat).toNat 0) (((szs p r + f.length - 1 : Nat) : Int)) = some (if allB 1000000 ((flowL p r f).drop 1) = true then ((flowL p r f).drop 1, 0) else ([], 3)) := fun k hk => by
    have hlen : (List.replicate (szs p r) 0 ++ f).length = szs p r + f.length := by rw [List.length_append, List.length_replicate]
    refine flow_spec (p := p) (s := szs p r) c1 s1 f _ (Kw + 1) (szs p r + f.length - 1) (List.replicate (szs p r) 0 ++ f) (List.replicate (szN p r.toNat).toNat 0) (by rw [hlen]; omega) (by rw [hlen]; omega) (by rw [hlen]; omega) hlen (by rw [List.take_of_length_le (by rw [hlen]; omega)]; exact s8) ⟨by rw [List.length_replicate, hlen]; omega, fun j hj => ⟨fun z => ?_, fun z => ?_⟩⟩ hend k (by omega)
    · rw [List.getD_eq_getElem?_getD, List.getElem?_append_right (by rw [List.length_replicate]; omega), List.length_replicate, ← List.getD_eq_getElem?_getD]
    · rw [hlen] at hj
      have hj2 : j < szs p r := by omega
      have g : ∀ n, (List.replicate n (0 : Int))[j]?.getD 0 = 0 := by
        intro n; rw [List.getElem?_replicate]; split <;> rfl
      rw [List.getD_eq_getElem?_getD, List.getD_eq_getElem?_getD, List.getElem?_append_left (by rw [List.length_replicate]; omega), g, g]
  have hl0 : ∀ k, Kw + 5010 ≤ k → spec_FlowOfBoundary.l0 k p r f (wS id f) (f.length : Int) = some (if wS id f = 0 then (if allB 1000000 ((flowL p r f).drop 1) = true then ((flowL p r f).drop 1, 0) else ([], 3)) else ([], 5)) := fun k hk => by
    obtain ⟨k, rfl⟩ : ∃ m, k = m + 1 := ⟨k - 1, by omega⟩
    simp only [spec_FlowOfBoundary.l0]
    rw [if_neg (by omega)]
    by_cases c5 : wS id f = 0
    · rw [if_pos c5, if_pos c5, size_eq p r c1 (by omega) (by omega) _ (by omega), w64 (n := r - 1) (by omega) (by omega), size_eq p (r - 1) c1 (by omega) (by omega) _ (by omega)]
      simp only [Option.bind_some]
      rw [if_pos (by omega), if_pos (by omega), w64 (n := szN p r.toNat - 1) (by omega) (by omega), ← s2, show szN p r.toNat - 1 = ((szs p r + f.length - 1 : Nat) : Int) by omega]
      exact hl1 k (by omega)
    · rw [if_neg c5, if_neg c5]
  refine ⟨Kv + Kw + 20000, fun k hk => ?_⟩
  obtain ⟨k, rfl⟩ : ∃ m, k = m + 1 := ⟨k - 1, by omega⟩
  unfold spec_FlowOfBoundary.f res
  rw [hcd _ (by omega), if_pos c1, if_pos c2, if_pos c3]
  simp only [Option.bind_some]
  rw [if_neg hx1, if_neg hx2, if_neg (by omega), size_eq p r c1 (by omega) (by omega) _ (by omega), w64 (n := r - 1) (by omega) (by omega), size_eq p (r - 1) c1 (by omega) (by omega) _ (by omega)]
  simp only [Option.bind_some]
  rw [w64 (n := szN p r.toNat - szN p (r - 1).toNat) (by omega) (by omega), if_pos c3.1, hv _ (by omega), c3.2]
  simp only [Option.bind_some, spec_FlowOfBoundary.j0]
  rw [if_neg (by simp)]
  by_cases c4 : szN p r.toNat > 500
  · rw [if_pos c4, if_pos c4, if_neg (by omega)]
  · rw [if_neg c4, if_neg c4, if_pos rfl]
    have := total_spec p r f (by omega) s7 _ (Kw + 5010) hl0 f.length 0 (by omega) k (by omega)
    simpa [wS] using this
theorem impl_res (p r : Int) (f : List Int) (hl : f.length ≤ 1048576) : ∃ K, ∀ k, K ≤ k → impl_FlowOfBoundary.f k p r f = some (res p r f) := by
  obtain ⟨Kv, hv⟩ := within_eq 1000000 (by omega) (by omega) f hl
  by_cases c1 : p = 2 ∨ p = 3 ∨ p = 5 ∨ p = 7
  case neg =>
    refine ⟨6, fun k hk => ?_⟩
    have hp : impl_isPrime.f p = some false := by
      rw [isPrime_eq]
      rcases prime_cases p with ⟨e, h⟩ | ⟨e, h⟩
      · exact absurd h c1
      · exact e
    unfold impl_FlowOfBoundary.f res
    rw [hp, if_neg c1]; simp
  have hp : impl_isPrime.f p = some true := by
    rw [isPrime_eq]
    rcases prime_cases p with ⟨e, h⟩ | ⟨e, h⟩
    · exact e
    · exact absurd c1 h
  by_cases c2 : 1 ≤ r ∧ r ≤ 4
  case neg =>
    refine ⟨6, fun k hk => ?_⟩
    unfold impl_FlowOfBoundary.f res
    rw [hp, if_pos c1, if_neg c2]
    simp only [Option.bind_some, if_true]
    by_cases c0 : r < 1
    · rw [if_pos c0]
    · rw [if_neg c0, if_pos (by omega)]
  have hb := szN_bd p (r - 1) c1 (by omega) (by omega)
  have hb2 := szN_bd p r c1 (by omega) (by omega)
  by_cases c3 : (f.length : Int) = szN p r.toNat - szN p (r - 1).toNat ∧ allB 1000000 f = true
  case neg =>
    refine ⟨Kv + 7, fun k hk => ?_⟩
    obtain ⟨k, rfl⟩ : ∃ m, k = m + 1 := ⟨k - 1, by omega⟩
    unfold impl_FlowOfBoundary.f res
    rw [hp, if_pos c1, if_pos c2, if_neg c3]
    simp only [Option.bind_some, if_true]
    rw [if_neg (by omega), if_neg (by omega), rsize_eq p r c1 (by omega) (by omega) _ (by omega), w64 (n := r - 1) (by omega) (by omega), rsize_eq p (r - 1) c1 (by omega) (by omega) _ (by omega)]
    simp only [Option.bind_some]
    rw [w64 (n := szN p r.toNat - szN p (r - 1).toNat) (by omega) (by omega)]
    by_cases c5 : (f.length : Int) = szN p r.toNat - szN p (r - 1).toNat
    · have c6 : allB 1000000 f = false := by
        cases h : allB 1000000 f with
        | true => exact absurd ⟨c5, h⟩ c3
        | false => rfl
      rw [if_pos c5, hv _ (by omega), c6]
      simp only [Option.bind_some, impl_FlowOfBoundary.j0]; rw [if_pos (by simp)]
    · rw [if_neg c5]
      simp only [impl_FlowOfBoundary.j0]; rw [if_pos trivial]
  obtain ⟨s1, s2, s3, s4, s5, s6, s7, s8, s9⟩ := setup c1 c2 c3.1 c3.2
  obtain ⟨f1, f2⟩ := flow_head c1 c2 c3.1 c3.2
  obtain ⟨Kw, hw⟩ := within_eq 1000000 (by omega) (by omega) (flowL p r f) (by omega)
  have hend : ∀ k, Kw + 1 ≤ k → impl_FlowOfBoundary.l0 k p (flowL p r f) 0 = some (if wS id f = 0 then (if allB 1000000 ((flowL p r f).drop 1) = true then ((flowL p r f).drop 1, 0) else ([], 3)) else ([], 5)) := fun k hk => by
    obtain ⟨k, rfl⟩ : ∃ m, k = m + 1 := ⟨k - 1, by omega⟩
    have h0 : rd (flowL p r f) 0 = wS id f := by
      have := rdD (flowL p r f) 0
      rw [f1] at this
      exact this
    simp only [impl_FlowOfBoundary.l0]
    rw [if_neg (by omega), if_pos (by omega), h0]
    by_cases c5 : wS id f = 0
    · rw [if_pos c5, if_pos c5, hw k (by omega), drop_one _ (by rw [f1, c5]) (by omega)]
      simp only [Option.bind_some]
      by_cases c6 : allB 1000000 ((flowL p r f).drop 1) = true
      · rw [if_pos c6, if_pos c6, if_pos (by omega), if_pos (by rw [List.length_nil, List.length_drop]; omega), List.nil_append]
      · rw [if_neg c6, if_neg c6]
    · rw [if_neg c5, if_neg c5]
  have hlen : (List.replicate (szs p r) 0 ++ f).length = szs p r + f.length := by rw [List.length_append, List.length_replicate]
  refine ⟨Kv + Kw + 20000, fun k hk => ?_⟩
  obtain ⟨k, rfl⟩ : ∃ m, k = m + 1 := ⟨k - 1, by omega⟩
  unfold impl_FlowOfBoundary.f res
  rw [hp, if_pos c1, if_pos c2, if_pos c3]
  simp only [Option.bind_some, if_true]
  rw [if_neg (by omega), if_neg (by omega), rsize_eq p r c1 (by omega) (by omega) _ (by omega), w64 (n := r - 1) (by omega) (by omega), rsize_eq p (r - 1) c1 (by omega) (by omega) _ (by omega)]
  simp only [Option.bind_some]
  rw [w64 (n := szN p r.toNat - szN p (r - 1).toNat) (by omega) (by omega), if_pos c3.1, hv _ (by omega), c3.2]
  simp only [Option.bind_some, impl_FlowOfBoundary.j0]
  rw [if_neg (by simp)]
  by_cases c4 : szN p r.toNat > 500
  · rw [if_pos c4, if_pos c4]
  · rw [if_neg c4, if_neg c4, if_pos (by omega), if_pos (by omega)]
    rw [show (szN p (r - 1).toNat).toNat = szs p r from rfl, if_pos (by rw [List.length_replicate]; omega), w64 (n := szN p r.toNat - 1) (by omega) (by omega), show szN p r.toNat - 1 = ((szs p r + f.length - 1 : Nat) : Int) by omega]
    exact flow_impl (p := p) (s := (szs p r : Int)) c1 (by omega) _ (Kw + 1) (szs p r + f.length - 1) (List.replicate (szs p r) 0 ++ f) (by rw [hlen]; omega) (by rw [hlen]; omega) (by rw [hlen]; omega) (by rw [List.take_of_length_le (by rw [hlen]; omega)]; exact s8) hend k (by omega)
end FL

/-! the draws -/
def Byt (l : List Int) : Prop := ∀ x, x ∈ l → 0 ≤ x ∧ x ≤ 255
theorem rd_byte {l : List Int} (hb : Byt l) {i : Int} (h0 : 0 ≤ i) (h1 : i < (l.length : Int)) : 0 ≤ rd l i ∧ rd l i ≤ 255 := by
  obtain ⟨n, rfl⟩ := Int.eq_ofNat_of_zero_le h0
  have hn : n < l.length := by omega
  have h2 := rd_nat l n hn
  rw [List.getElem?_eq_getElem hn] at h2
  rw [← Option.some.inj h2]
  exact hb _ (List.getElem_mem _)
theorem and_bd {x : Int} (h0 : 0 ≤ x) (h1 : x < 18446744073709551616) : 0 ≤ Go.bits .and .u64 x 17179869183 ∧ Go.bits .and .u64 x 17179869183 ≤ 17179869183 := by
  obtain ⟨n, rfl⟩ := Int.eq_ofNat_of_zero_le h0
  have h := Go.bits_and_u64_nat n 17179869183 (by omega) (by omega)
  have e : ((17179869183 : Nat) : Int) = 17179869183 := rfl
  rw [e] at h
  rw [h]
  have := Nat.and_le_right (n := n) (m := 17179869183)
  omega
theorem u64_bd (n : Int) : 0 ≤ IntKind.u64.wrap n / 8388608 ∧ IntKind.u64.wrap n / 8388608 < 18446744073709551616 := by
  rw [IntKind.wrap_u64]; omega
theorem tmod_bd {x n : Int} (h0 : 0 ≤ x) (h1 : 1 ≤ n) : 0 ≤ Int.tmod x n ∧ Int.tmod x n < n := by
  rw [Int.tmod_eq_emod_of_nonneg h0]
  exact ⟨Int.emod_nonneg _ (by omega), Int.emod_lt_of_pos _ (by omega)⟩
theorem next_ok {l : List Int} (hb : Byt l) (hl : l.length ≤ 4096) {t : Int} (h n : Int) (ht : 0 ≤ t) : ∃ r t' h', spec_l01Next.f l t h n = some (r, t', h') ∧ 0 ≤ t' ∧ (n < 1 → r = 0) ∧ (1 ≤ n → 0 ≤ r ∧ r < n) := by
  unfold spec_l01Next.f
  by_cases c : n < 1
  · rw [if_pos c]; exact ⟨_, _, _, rfl, ht, fun _ => rfl, fun z => by omega⟩
  · rw [if_neg c]
    have hu := u64_bd (IntKind.u64.wrap (h * 6364136223846793005) + 1442695040888963407)
    have ha := and_bd hu.1 hu.2
    by_cases d : t < (l.length : Int)
    · have hr := rd_byte hb ht d
      rw [if_pos d, if_pos ht, if_neg (by omega)]
      refine ⟨_, _, _, rfl, by rw [w64 (n := t + 1) (by omega) (by omega)]; omega, fun z => by omega, fun z => ?_⟩
      refine tmod_bd ?_ z
      rw [w64 (n := Go.bits .and .u64 _ 17179869183) (by omega) (by omega), w64 (n := rd l t) (by omega) (by omega), w64 (by omega) (by omega)]
      omega
    · rw [if_neg d, if_neg (by omega)]
      refine ⟨_, _, _, rfl, ht, fun z => by omega, fun z => ?_⟩
      refine tmod_bd ?_ z
      rw [w64 (n := Go.bits .and .u64 _ 17179869183) (by omega) (by omega)]
      omega
theorem pick_ok {l : List Int} (hb : Byt l) (hl : l.length ≤ 4096) {t : Int} (h : Int) (ht : 0 ≤ t) (q : List Int) (hq : 1 ≤ q.length) : ∃ r t' h', spec_l01Pick.f l t h q = some (r, t', h') ∧ 0 ≤ t' := by
  obtain ⟨r, t', h', e, ht', _, hr⟩ := next_ok hb hl h (q.length : Int) ht
  have := hr (by omega)
  unfold spec_l01Pick.f
  rw [e]
  simp only [Option.bind_some]
  rw [if_pos (by omega), if_pos (by omega)]
  exact ⟨_, _, _, rfl, ht'⟩
theorem from_ok (l : List Int) (hl : l.length ≤ 4096) : ∃ h, ∀ k, l.length + 1 ≤ k → spec_l01From.f k l = some (l, 0, h) := by
  have go : ∀ (d i : Nat) (x : Int), i + d = l.length → ∃ h, ∀ k, d + 1 ≤ k → spec_l01From.l0 k l (i : Int) l 0 x = some (l, 0, h) := by
    intro d
    induction d with
    | zero =>
      intro i x hi
      refine ⟨x, fun k hk => ?_⟩
      obtain ⟨k, rfl⟩ : ∃ m, k = m + 1 := ⟨k - 1, by omega⟩
      simp only [spec_l01From.l0]
      rw [if_neg (by omega)]
    | succ d ih =>
      intro i x hi
      obtain ⟨h, e⟩ := ih (i + 1) (IntKind.u64.wrap ((IntKind.u64.wrap ((IntKind.u64.wrap (x * 1099511628211)) + (IntKind.u64.wrap (rd l (i : Int))))) + 71)) (by omega)
      refine ⟨h, fun k hk => ?_⟩
      obtain ⟨k, rfl⟩ : ∃ m, k = m + 1 := ⟨k - 1, by omega⟩
      simp only [spec_l01From.l0]
      rw [if_pos (by omega), if_pos (by omega), if_pos (by omega), w64 (n := (i : Int) + 1) (by omega) (by omega), show (i : Int) + 1 = ((i + 1 : Nat) : Int) by omega]
      exact e k (by omega)
  obtain ⟨h, e⟩ := go l.length 0 (IntKind.u64.wrap (12527 + (IntKind.u64.wrap ((l.length : Int))))) (by omega)
  exact ⟨h, fun k hk => e k (by omega)⟩
theorem sizedJ_ok {l : List Int} (hb : Byt l) (hl : l.length ≤ 4096) {t : Int} (h p r : Int) (ht : 0 ≤ t) : ∃ p' r' t' h', ∀ k, 1 ≤ k → spec_l07Sized.j0 k p r l t h = some (p', r', t', h') ∧ 0 ≤ t' := by
  obtain ⟨x, t1, h1, e1, ht1, _, _⟩ := next_ok hb hl h 40 ht
  obtain ⟨a, t2, h2, e2, ht2⟩ := pick_ok hb hl h1 ht1 [4, 1] (by simp)
  obtain ⟨b, t3, h3, e3, ht3⟩ := pick_ok hb hl h1 ht1 [0, 5, (-1)] (by simp)
  by_cases c0 : x = 0
  · refine ⟨a, r, t2, h2, fun k hk => ?_⟩
    obtain ⟨k, rfl⟩ : ∃ m, k = m + 1 := ⟨k - 1, by omega⟩
    simp only [spec_l07Sized.j0]; rw [e1]; simp only [Option.bind_some]; rw [if_pos c0, e2]; exact ⟨rfl, ht2⟩
  by_cases c1 : x = 1
  · refine ⟨p, b, t3, h3, fun k hk => ?_⟩
    obtain ⟨k, rfl⟩ : ∃ m, k = m + 1 := ⟨k - 1, by omega⟩
    simp only [spec_l07Sized.j0]; rw [e1]; simp only [Option.bind_some]; rw [if_neg c0, if_pos c1, e3]; exact ⟨rfl, ht3⟩
  by_cases c2 : x = 2
  · refine ⟨p, 4, t1, h1, fun k hk => ?_⟩
    obtain ⟨k, rfl⟩ : ∃ m, k = m + 1 := ⟨k - 1, by omega⟩
    simp only [spec_l07Sized.j0]; rw [e1]; simp only [Option.bind_some]; rw [if_neg c0, if_neg c1, if_pos c2]; exact ⟨rfl, ht1⟩
  · refine ⟨p, r, t1, h1, fun k hk => ?_⟩
    obtain ⟨k, rfl⟩ : ∃ m, k = m + 1 := ⟨k - 1, by omega⟩
    simp only [spec_l07Sized.j0]; rw [e1]; simp only [Option.bind_some]; rw [if_neg c0, if_neg c1, if_neg c2]; exact ⟨rfl, ht1⟩
theorem sized_ok {l : List Int} (hb : Byt l) (hl : l.length ≤ 4096) {t : Int} (h : Int) (ht : 0 ≤ t) : ∃ p' r' t' h', ∀ k, 1 ≤ k → spec_l07Sized.f k l t h = some (p', r', t', h') ∧ 0 ≤ t' := by
  obtain ⟨p, t1, h1, e1, ht1⟩ := pick_ok hb hl h ht [2, 2, 2, 3, 3, 5, 7] (by simp)
  obtain ⟨r, t2, h2, e2, ht2⟩ := pick_ok hb hl h1 ht1 [1, 2, 2, 3] (by simp)
  obtain ⟨s, t3, h3, e3, ht3⟩ := pick_ok hb hl h2 ht2 [1, 2] (by simp)
  obtain ⟨x, t4, h4, e4, ht4, _, _⟩ := next_ok hb hl h2 3 ht2
  have fin : ∀ k, spec_l07Sized.f k l t h = (if p > 3 then spec_l07Sized.j0 k p s l t3 h3 else (if p = 2 then (if x = 0 then spec_l07Sized.j0 k p 4 l t4 h4 else spec_l07Sized.j0 k p r l t4 h4) else spec_l07Sized.j0 k p r l t2 h2)) := fun k => by
    unfold spec_l07Sized.f
    rw [e1]; simp only [Option.bind_some]
    rw [e2]; simp only [Option.bind_some]
    rw [e3, e4]; simp only [Option.bind_some]
  by_cases c : p > 3
  · obtain ⟨p', r', t', h', e⟩ := sizedJ_ok hb hl h3 p s ht3
    exact ⟨p', r', t', h', fun k hk => by rw [fin, if_pos c]; exact e k hk⟩
  · by_cases d : p = 2
    · by_cases g : x = 0
      · obtain ⟨p', r', t', h', e⟩ := sizedJ_ok hb hl h4 p 4 ht4
        exact ⟨p', r', t', h', fun k hk => by rw [fin, if_neg c, if_pos d, if_pos g]; exact e k hk⟩
      · obtain ⟨p', r', t', h', e⟩ := sizedJ_ok hb hl h4 p r ht4
        exact ⟨p', r', t', h', fun k hk => by rw [fin, if_neg c, if_pos d, if_neg g]; exact e k hk⟩
    · obtain ⟨p', r', t', h', e⟩ := sizedJ_ok hb hl h2 p r ht2
      exact ⟨p', r', t', h', fun k hk => by rw [fin, if_neg c, if_neg d]; exact e k hk⟩
theorem boundL_ok {l : List Int} (hb : Byt l) (hl : l.length ≤ 4096) (c : Int) (hc : c ≤ 5000) : ∀ (d : Nat) (i s t h : Int) (acc : List Int), 0 ≤ t → 0 ≤ i → (c - i).toNat ≤ d → i ≤ 5001 → acc.length + d ≤ 6000 → ∃ f t' h', (∀ k, d + 1 ≤ k → spec_l07Boundary.l0 k c acc s i l t h = some (f, t', h')) ∧ 0 ≤ t' ∧ f.length ≤ 6001 := by
  intro d
  induction d with
  | zero =>
    intro i s t h acc ht h0 hi h5 ha
    obtain ⟨x, t1, h1, e1, ht1, _, _⟩ := next_ok hb hl h 8 ht
    obtain ⟨y, t2, h2, e2, ht2⟩ := pick_ok hb hl h1 ht1 [wrap64 (s - 1), 1000001] (by simp)
    by_cases g : x = 0
    · refine ⟨acc ++ [wrap64 (-y)], t2, h2, fun k hk => ?_, ht2, by simp; omega⟩
      obtain ⟨k, rfl⟩ : ∃ m, k = m + 1 := ⟨k - 1, by omega⟩
      simp only [spec_l07Boundary.l0]
      rw [if_neg (by omega), e1]; simp only [Option.bind_some]; rw [if_pos g, e2]; simp only [Option.bind_some]; rw [if_pos (by omega)]
    · refine ⟨acc ++ [wrap64 (-s)], t1, h1, fun k hk => ?_, ht1, by simp; omega⟩
      obtain ⟨k, rfl⟩ : ∃ m, k = m + 1 := ⟨k - 1, by omega⟩
      simp only [spec_l07Boundary.l0]
      rw [if_neg (by omega), e1]; simp only [Option.bind_some]; rw [if_neg g, if_pos (by omega)]
  | succ d ih =>
    intro i s t h acc ht h0 hi h5 ha
    by_cases q : i < c
    · obtain ⟨x, t1, h1, e1, ht1, _, _⟩ := next_ok hb hl h 9 ht
      obtain ⟨f, t', h', e, ht', hf⟩ := ih (i + 1) (wrap64 (s + (wrap64 (x - 4)))) t1 h1 (acc ++ [wrap64 (x - 4)]) ht1 (by omega) (by omega) (by omega) (by simp; omega)
      refine ⟨f, t', h', fun k hk => ?_, ht', hf⟩
      obtain ⟨k, rfl⟩ : ∃ m, k = m + 1 := ⟨k - 1, by omega⟩
      simp only [spec_l07Boundary.l0]
      rw [if_pos q, e1]; simp only [Option.bind_some]; rw [if_pos (by omega), w64 (n := i + 1) (by omega) (by omega)]
      exact e k (by omega)
    · obtain ⟨f, t', h', e, ht', hf⟩ := ih i s t h acc ht h0 (by omega) h5 (by omega)
      exact ⟨f, t', h', fun k hk => e k (by omega), ht', hf⟩
theorem bound_ok {l : List Int} (hb : Byt l) (hl : l.length ≤ 4096) {t : Int} (h : Int) (ht : 0 ≤ t) (p r : Int) : ∃ f t' h', (∀ k, 6010 ≤ k → spec_l07Boundary.f k l t h p r = some (f, t', h')) ∧ 0 ≤ t' ∧ f.length ≤ 6001 := by
  have hcode := FL.l07Code_e p r
  by_cases c : (p = 2 ∨ p = 3 ∨ p = 5 ∨ p = 7) ∧ (1 ≤ r ∧ r ≤ 4) ∧ szN p r.toNat ≤ 500
  · obtain ⟨c1, c2, c3⟩ := c
    have hb1 := szN_bd p (r - 1) c1 (by omega) (by omega)
    have hb2 := szN_bd p r c1 (by omega) (by omega)
    obtain ⟨f, t', h', e, ht', hf⟩ := boundL_ok hb hl (szN p r.toNat - szN p (r - 1).toNat) (by omega) 5000 1 0 t h [] ht (by omega) (by omega) (by omega) (by simp)
    refine ⟨f, t', h', fun k hk => ?_, ht', hf⟩
    obtain ⟨k, rfl⟩ : ∃ m, k = m + 1 + 1 := ⟨k - 2, by omega⟩
    unfold spec_l07Boundary.f
    rw [hcode _ (by omega), if_pos c1, if_pos (by omega), if_neg (by omega)]
    simp only [Option.bind_some]
    rw [if_pos trivial, decide_eq_true (by omega)]
    simp only [spec_l07Boundary.j0]
    rw [if_pos trivial, size_eq p r c1 (by omega) (by omega) _ (by omega), w64 (n := r - 1) (by omega) (by omega), size_eq p (r - 1) c1 (by omega) (by omega) _ (by omega)]
    simp only [Option.bind_some]
    rw [w64 (n := szN p r.toNat - szN p (r - 1).toNat) (by omega) (by omega)]
    simp only [spec_l07Boundary.j1]
    exact e _ (by omega)
  · obtain ⟨f, t', h', e, ht', hf⟩ := boundL_ok hb hl 3 (by omega) 5000 1 0 t h [] ht (by omega) (by omega) (by omega) (by simp)
    have hj : ∀ k, 6000 ≤ k → spec_l07Boundary.j0 k p r 3 false l t h = some (f, t', h') := fun k hk => by
      obtain ⟨k, rfl⟩ : ∃ m, k = m + 1 + 1 := ⟨k - 2, by omega⟩
      simp only [spec_l07Boundary.j0]
      rw [if_neg (by simp)]
      simp only [spec_l07Boundary.j1]
      exact e _ (by omega)
    refine ⟨f, t', h', fun k hk => ?_, ht', hf⟩
    unfold spec_l07Boundary.f
    rw [hcode _ (by omega)]
    simp only [Option.bind_some]
    by_cases c1 : p = 2 ∨ p = 3 ∨ p = 5 ∨ p = 7
    · rw [if_pos c1]
      by_cases c2 : 0 ≤ r ∧ r ≤ 4
      · rw [if_pos c2]
        by_cases c3 : szN p r.toNat > 500
        · rw [if_pos c3, if_neg (by omega)]; exact hj k (by omega)
        · rw [if_neg c3, if_pos rfl]
          have : ¬ r > 0 := fun z => c ⟨c1, by omega, by omega⟩
          rw [decide_eq_false this]; exact hj k (by omega)
      · rw [if_neg c2, if_neg (by omega)]; exact hj k (by omega)
    · rw [if_neg c1, if_neg (by omega)]; exact hj k (by omega)
theorem numsL_ok {l : List Int} (hb : Byt l) (hl : l.length ≤ 4096) (m : Int) : ∀ (d : Nat) (n t h : Int) (acc : List Int), 0 ≤ t → n.toNat ≤ d → n ≤ 1000 → acc.length + d ≤ 6000 → ∃ f t' h', (∀ k, d + 1 ≤ k → spec_l07Numbers.l0 k n acc m l t h = some (f, t', h')) ∧ 0 ≤ t' ∧ f.length ≤ 6001 := by
  intro d
  induction d with
  | zero =>
    intro n t h acc ht hn h5 ha
    obtain ⟨x, t1, h1, e1, ht1, _, _⟩ := next_ok hb hl h 40 ht
    by_cases g : x = 0
    · refine ⟨acc ++ [0], t1, h1, fun k hk => ?_, ht1, by simp; omega⟩
      obtain ⟨k, rfl⟩ : ∃ m, k = m + 1 := ⟨k - 1, by omega⟩
      simp only [spec_l07Numbers.l0]
      rw [if_neg (by omega), e1]; simp only [Option.bind_some]; rw [if_pos g, if_pos (by omega)]
    by_cases g1 : x = 1 ∧ (acc.length : Int) > 0
    · obtain ⟨y, t2, h2, e2, ht2, _, hy⟩ := next_ok hb hl h1 (acc.length : Int) ht1
      obtain ⟨z, t3, h3, e3, ht3⟩ := pick_ok hb hl h2 ht2 [1000001, (-1000001)] (by simp)
      have hy2 := hy (by omega)
      refine ⟨acc.set y.toNat z, t3, h3, fun k hk => ?_, ht3, by rw [List.length_set]; omega⟩
      obtain ⟨k, rfl⟩ : ∃ m, k = m + 1 := ⟨k - 1, by omega⟩
      simp only [spec_l07Numbers.l0]
      rw [if_neg (by omega), e1]; simp only [Option.bind_some]; rw [if_neg g, if_pos g1.1, if_pos g1.2, e2]; simp only [Option.bind_some]; rw [e3]; simp only [Option.bind_some]; rw [if_pos hy2.1, if_pos hy2.2]
    · refine ⟨acc, t1, h1, fun k hk => ?_, ht1, by omega⟩
      obtain ⟨k, rfl⟩ : ∃ m, k = m + 1 := ⟨k - 1, by omega⟩
      simp only [spec_l07Numbers.l0]
      rw [if_neg (by omega), e1]; simp only [Option.bind_some]; rw [if_neg g]
      by_cases g2 : x = 1
      · rw [if_pos g2, if_neg (fun z => g1 ⟨g2, z⟩)]
      · rw [if_neg g2]
  | succ d ih =>
    intro n t h acc ht hn h5 ha
    by_cases q : n > 0
    · obtain ⟨x, t1, h1, e1, ht1, _, _⟩ := next_ok hb hl h (wrap64 ((wrap64 (2 * m)) + 1)) ht
      obtain ⟨f, t', h', e, ht', hf⟩ := ih (n - 1) t1 h1 (acc ++ [wrap64 (x - m)]) ht1 (by omega) (by omega) (by simp; omega)
      refine ⟨f, t', h', fun k hk => ?_, ht', hf⟩
      obtain ⟨k, rfl⟩ : ∃ m, k = m + 1 := ⟨k - 1, by omega⟩
      simp only [spec_l07Numbers.l0]
      rw [if_pos q, e1]; simp only [Option.bind_some]; rw [if_pos (by omega), w64 (n := n - 1) (by omega) (by omega)]
      exact e k (by omega)
    · obtain ⟨f, t', h', e, ht', hf⟩ := ih n t h acc ht (by omega) h5 (by omega)
      exact ⟨f, t', h', fun k hk => e k (by omega), ht', hf⟩
theorem nums_ok {l : List Int} (hb : Byt l) (hl : l.length ≤ 4096) {t : Int} (h n : Int) (ht : 0 ≤ t) (hn : n ≤ 1000) : ∃ f t' h', (∀ k, 1001 ≤ k → spec_l07Numbers.f k l t h n = some (f, t', h')) ∧ 0 ≤ t' ∧ f.length ≤ 6001 := by
  obtain ⟨m, t1, h1, e1, ht1⟩ := pick_ok hb hl h ht [2, 5, 100, 1000000] (by simp)
  obtain ⟨f, t', h', e, ht', hf⟩ := numsL_ok hb hl m 1000 n t1 h1 [] ht1 (by omega) hn (by simp)
  refine ⟨f, t', h', fun k hk => ?_, ht', hf⟩
  unfold spec_l07Numbers.f
  rw [e1]; simp only [Option.bind_some]
  exact e k (by omega)
theorem places_ok (p r : Int) : ∃ n, (∀ k, 6 ≤ k → spec_l07Places.f k p r = some n) ∧ n ≤ 600 ∧ -10000 ≤ n := by
  by_cases c : (p = 2 ∨ p = 3 ∨ p = 5 ∨ p = 7) ∧ 0 ≤ r ∧ r ≤ 4
  · have hb := szN_bd p r c.1 c.2.1 c.2.2
    refine ⟨mn (szN p r.toNat) 600, fun k hk => ?_, by unfold mn; split <;> omega, by unfold mn; split <;> omega⟩
    unfold spec_l07Places.f
    rcases prime_cases p with ⟨e, h⟩ | ⟨e, h⟩
    · rw [e, in_eq]; simp only [Option.bind_some, if_true]
      rw [decide_eq_true c.2, if_pos rfl, size_eq p r c.1 c.2.1 c.2.2 k hk]; rfl
    · exact absurd c.1 h
  · refine ⟨3, fun k hk => ?_, by omega, by omega⟩
    unfold spec_l07Places.f
    rcases prime_cases p with ⟨e, h⟩ | ⟨e, h⟩
    · rw [e, in_eq]; simp only [Option.bind_some, if_true]
      rw [decide_eq_false (fun z => c ⟨h, z⟩), if_neg (by simp)]
    · rw [e]; simp
theorem flowJ_ok {l : List Int} (hb : Byt l) (hl : l.length ≤ 4096) {t : Int} (h : Int) (ht : 0 ≤ t) (p r : Int) (b : Bool) : ∃ K f t' h', (∀ k, K ≤ k → spec_l07Flow.j0 k p r b l t h = some (p, r, f, t', h')) ∧ f.length ≤ 1048576 := by
  obtain ⟨n, en, hn1, hn2⟩ := places_ok p r
  have num : ∀ t h, 0 ≤ t → ∃ f t' h', (∀ k, 1001 ≤ k → ((spec_l07Places.f k p r).bind fun t929 => ((spec_l07Numbers.f k l t h (wrap64 (t929 - 1))).bind fun bt930 => (some (p, r, bt930.1, bt930.2.1, bt930.2.2)))) = some (p, r, f, t', h')) ∧ f.length ≤ 6001 := by
    intro t h ht
    obtain ⟨f, t', h', e, ht', hf⟩ := nums_ok hb hl h (wrap64 (n - 1)) ht (by rw [w64 (by omega) (by omega)]; omega)
    refine ⟨f, t', h', fun k hk => ?_, hf⟩
    rw [en k (by omega)]; simp only [Option.bind_some]
    rw [e k hk]; rfl
  cases b with
  | false =>
    obtain ⟨f, t', h', e, hf⟩ := num t h ht
    refine ⟨1002, f, t', h', fun k hk => ?_, by omega⟩
    obtain ⟨k, rfl⟩ : ∃ m, k = m + 1 := ⟨k - 1, by omega⟩
    simp only [spec_l07Flow.j0]
    rw [if_neg (by simp)]
    exact e k (by omega)
  | true =>
    obtain ⟨f, t1, h1, e1, ht1, hf1⟩ := bound_ok hb hl h ht p r
    obtain ⟨K, hK⟩ := FL.spec_res p r f (by omega)
    have hlen := FL.res_length p r f (by omega)
    by_cases c : (FL.res p r f).2 = 0
    · obtain ⟨x, t2, h2, e2, ht2, hx0, hx1⟩ := next_ok hb hl h1 ((FL.res p r f).1.length : Int) ht1
      obtain ⟨y, t3, h3, e3, ht3, _, _⟩ := next_ok hb hl h2 3 ht2
      by_cases d : y = 0 ∧ 1 ≤ (FL.res p r f).1.length
      · have hx2 := hx1 (by omega)
        refine ⟨K + 6020, (FL.res p r f).1.set x.toNat (wrap64 ((rd (FL.res p r f).1 x) + 1)), t3, h3, fun k hk => ?_, by rw [List.length_set]; exact hlen⟩
        obtain ⟨k, rfl⟩ : ∃ m, k = m + 1 := ⟨k - 1, by omega⟩
        simp only [spec_l07Flow.j0]
        rw [if_pos trivial, e1 k (by omega)]; simp only [Option.bind_some]
        rw [hK k (by omega)]; simp only [Option.bind_some]
        rw [if_pos c, e2]; simp only [Option.bind_some]
        rw [e3]; simp only [Option.bind_some]
        rw [if_pos d.1, if_pos hx2.1, if_pos hx2.2]
      · by_cases d0 : y = 0
        · exfalso
          have hz : (FL.res p r f).1.length = 0 := by
            rcases Nat.eq_zero_or_pos (FL.res p r f).1.length with z | z
            · exact z
            · exact absurd ⟨d0, z⟩ d
          exact FL.res_pos p r f (by omega) c hz
        · refine ⟨K + 6020, (FL.res p r f).1, t3, h3, fun k hk => ?_, hlen⟩
          obtain ⟨k, rfl⟩ : ∃ m, k = m + 1 := ⟨k - 1, by omega⟩
          simp only [spec_l07Flow.j0]
          rw [if_pos trivial, e1 k (by omega)]; simp only [Option.bind_some]
          rw [hK k (by omega)]; simp only [Option.bind_some]
          rw [if_pos c, e2]; simp only [Option.bind_some]
          rw [e3]; simp only [Option.bind_some]
          rw [if_neg d0]
    · obtain ⟨g, t', h', e, hg⟩ := num t1 h1 ht1
      refine ⟨K + 6020, g, t', h', fun k hk => ?_, by omega⟩
      obtain ⟨k, rfl⟩ : ∃ m, k = m + 1 := ⟨k - 1, by omega⟩
      simp only [spec_l07Flow.j0]
      rw [if_pos trivial, e1 k (by omega)]; simp only [Option.bind_some]
      rw [hK k (by omega)]; simp only [Option.bind_some]
      rw [if_neg c]
      exact e k (by omega)
theorem drawF_ok (l : List Int) (hb : Byt l) (hl : l.length ≤ 4096) : ∃ K p r f, (∀ k, K ≤ k → spec_DrawFlowOfBoundary.f k l = some (p, r, f)) ∧ f.length ≤ 10000 := by
  obtain ⟨h, e⟩ := from_ok l hl
  obtain ⟨p, r, t1, h1, e1⟩ := sized_ok hb hl (t := 0) h (by omega)
  obtain ⟨f, t2, h2, e2, ht2, hf⟩ := bound_ok hb hl h1 (e1 1 (by omega)).2 p r
  obtain ⟨x, t3, h3, e3, ht3, _, _⟩ := next_ok hb hl h2 30 ht2
  by_cases c : x = 0
  · refine ⟨20000, p, r, f ++ [0], fun k hk => ?_, by simp; omega⟩
    unfold spec_DrawFlowOfBoundary.f
    rw [e k (by omega)]; simp only [Option.bind_some]
    rw [(e1 k (by omega)).1]; simp only [Option.bind_some]
    rw [e2 k (by omega)]; simp only [Option.bind_some]
    rw [e3]; simp only [Option.bind_some]
    rw [if_pos c, if_pos (by omega)]
  · refine ⟨20000, p, r, f, fun k hk => ?_, by omega⟩
    unfold spec_DrawFlowOfBoundary.f
    rw [e k (by omega)]; simp only [Option.bind_some]
    rw [(e1 k (by omega)).1]; simp only [Option.bind_some]
    rw [e2 k (by omega)]; simp only [Option.bind_some]
    rw [e3]; simp only [Option.bind_some]
    rw [if_neg c]
theorem drawK_ok (l : List Int) (hb : Byt l) (hl : l.length ≤ 4096) : ∃ K p r f, (∀ k, K ≤ k → spec_DrawKeepsRule.f k l = some (p, r, f)) ∧ f.length ≤ 1048576 := by
  obtain ⟨h, e⟩ := from_ok l hl
  obtain ⟨p, r, t1, h1, e1⟩ := sized_ok hb hl (t := 0) h (by omega)
  obtain ⟨x, t2, h2, e2, ht2, _, _⟩ := next_ok hb hl h1 2 (e1 1 (by omega)).2
  have go : ∀ b, ∃ K f t' h', (∀ k, K ≤ k → spec_l07Flow.j0 k p r b l t2 h2 = some (p, r, f, t', h')) ∧ f.length ≤ 1048576 := fun b => flowJ_ok hb hl h2 ht2 p r b
  obtain ⟨K, f, t', h', ej, hf⟩ := go (if x = 0 then decide (r > 0) else false)
  refine ⟨K + 5000, p, r, f, fun k hk => ?_, hf⟩
  unfold spec_DrawKeepsRule.f spec_l07Flow.f
  rw [e k (by omega)]; simp only [Option.bind_some]
  rw [(e1 k (by omega)).1]; simp only [Option.bind_some]
  rw [e2]; simp only [Option.bind_some]
  by_cases c : x = 0
  · rw [if_pos c] at ej ⊢; rw [ej k (by omega)]; rfl
  · rw [if_neg c] at ej ⊢; rw [ej k (by omega)]; rfl

/-! the rule -/
namespace FL
def S (p j : Int) (L : List Int) : Nat → Nat → Int
  | _, 0 => 0
  | i, d + 1 => (if parI p ((i : Int) + 1) = j then L.getD (i + 1) 0 else 0) + S p j L (i + 1) d
theorem S_congr (p j : Int) {L M : List Int} : ∀ (d i : Nat), (∀ c, i < c → L.getD c 0 = M.getD c 0) → S p j L i d = S p j M i d
  | 0, _, _ => rfl
  | d + 1, i, h => by
    simp only [S]
    rw [h (i + 1) (by omega), S_congr p j d (i + 1) (fun c hc => h c (by omega))]
def Inv (p : Int) (L0 L : List Int) (i : Nat) : Prop := L.length = L0.length ∧ ∀ j : Nat, j < L0.length → L.getD j 0 = L0.getD j 0 + S p (j : Int) L i (L0.length - 1 - i)
theorem push_inv {p s : Int} (hp : p = 2 ∨ p = 3 ∨ p = 5 ∨ p = 7) (hs : 1 ≤ s) (L0 : List Int) (hl : (L0.length : Int) ≤ p * s + 2) : ∀ (i : Nat) (L : List Int), i < L0.length → Inv p L0 L i → Inv p L0 (push p i L) 0
  | 0, L, _, h => h
  | i + 1, L, hi, h => by
    obtain ⟨h0, h1, h2⟩ := parI_bd (i := (i : Int) + 1) hp (by omega) hs (by omega)
    obtain ⟨q, hq⟩ := Int.eq_ofNat_of_zero_le h0
    obtain ⟨hlen, hj⟩ := h
    unfold push
    refine push_inv hp hs L0 hl i _ (by omega) ⟨by simpa using hlen, fun j hjl => ?_⟩
    have hjj := hj j hjl
    rw [hq, Int.toNat_natCast, set_getD L q j _ (by omega), show L0.length - 1 - i = (L0.length - 1 - (i + 1)) + 1 by omega]
    simp only [S]
    rw [hq, set_getD L q (i + 1) _ (by omega), if_neg (show ¬ q = i + 1 by omega), S_congr p (j : Int) (M := L) _ (i + 1) (fun c hc => by
      rcases Nat.lt_or_ge c L.length with z | z
      · rw [set_getD L q c _ z, if_neg (by omega)]
      · have z1 : L.getD c 0 = 0 := by rw [List.getD_eq_getElem?_getD, List.getElem?_eq_none z]; rfl
        have z2 : ∀ v, (L.set q v).getD c 0 = 0 := fun v => by rw [List.getD_eq_getElem?_getD, List.getElem?_eq_none (by simpa using z)]; rfl
        rw [z1, z2])]
    by_cases e : q = j
    · subst e
      rw [if_pos rfl, if_pos rfl]; omega
    · rw [if_neg e, if_neg (by omega)]; omega
def B (L : List Int) : Nat → Nat → Int
  | _, 0 => 0
  | a, m + 1 => L.getD a 0 + B L (a + 1) m
theorem S_blk (p j : Int) (L : List Int) : ∀ (d i a m : Nat), (∀ c : Nat, i < c → c ≤ i + d → (parI p (c : Int) = j ↔ a ≤ c ∧ c < a + m)) → (m = 0 ∨ (i < a ∧ a + m ≤ i + d + 1)) → S p j L i d = B L a m
  | 0, i, a, m, h, hm => by
    obtain rfl : m = 0 := by omega
    rfl
  | d + 1, i, a, m, h, hm => by
    have h1 := h (i + 1) (by omega) (by omega)
    rw [show ((i + 1 : Nat) : Int) = (i : Int) + 1 by omega] at h1
    simp only [S]
    by_cases c : 1 ≤ m ∧ a = i + 1
    · obtain ⟨m, rfl⟩ : ∃ x, m = x + 1 := ⟨m - 1, by omega⟩
      obtain ⟨_, rfl⟩ := c
      rw [if_pos (h1.mpr ⟨by omega, by omega⟩), S_blk p j L d (i + 1) (i + 1 + 1) m (fun c hc hc2 => by
        have := h c (by omega) (by omega)
        rw [this]; omega) (by omega)]
      rfl
    · rw [if_neg (fun z => by have := h1.mp z; omega), S_blk p j L d (i + 1) a m (fun c hc hc2 => h c (by omega) (by omega)) (by omega)]
      omega
theorem par_iff {p : Int} (hp : p = 2 ∨ p = 3 ∨ p = 5 ∨ p = 7) {j c : Int} (hj : 0 ≤ j) (hc : 1 ≤ c) : parI p c = j ↔ fc p j ≤ c ∧ c < fc p j + cn p j := by
  unfold parI fc cn
  rcases hp with rfl | rfl | rfl | rfl <;> split <;> split <;> omega
theorem rd_drop (L : List Int) (a : Nat) (ha : 1 ≤ a) : rd (L.drop 1) ((a : Int) - 1) = L.getD a 0 := by
  rw [show (a : Int) - 1 = ((a - 1 : Nat) : Int) by omega, rdD, List.getD_eq_getElem?_getD, List.getD_eq_getElem?_getD, List.getElem?_drop, show 1 + (a - 1) = a by omega]
theorem sumI_B (L : List Int) : ∀ (m a : Nat), 1 ≤ a → KR.sumI (L.drop 1) ((a : Int) - 1) m = B L a m
  | 0, a, _ => rfl
  | m + 1, a, h => by
    have := sumI_B L m (a + 1) (by omega)
    simp only [KR.sumI, B]
    rw [rd_drop L a h, show (a : Int) - 1 + 1 = ((a + 1 : Nat) : Int) - 1 by omega, this]
theorem res0 {p r : Int} {f : List Int} (h : (res p r f).2 = 0) : (p = 2 ∨ p = 3 ∨ p = 5 ∨ p = 7) ∧ (1 ≤ r ∧ r ≤ 4) ∧ (f.length : Int) = szN p r.toNat - szN p (r - 1).toNat ∧ allB 1000000 f = true ∧ szN p r.toNat ≤ 500 ∧ wS id f = 0 ∧ allB 1000000 ((flowL p r f).drop 1) = true ∧ (res p r f).1 = (flowL p r f).drop 1 := by
  unfold res at *
  by_cases c1 : p = 2 ∨ p = 3 ∨ p = 5 ∨ p = 7
  · rw [if_pos c1] at *
    by_cases c2 : 1 ≤ r ∧ r ≤ 4
    · rw [if_pos c2] at *
      by_cases c3 : (f.length : Int) = szN p r.toNat - szN p (r - 1).toNat ∧ allB 1000000 f = true
      · rw [if_pos c3] at *
        by_cases c4 : szN p r.toNat > 500
        · rw [if_pos c4] at h; simp at h
        · rw [if_neg c4] at *
          by_cases c5 : wS id f = 0
          · rw [if_pos c5] at *
            by_cases c6 : allB 1000000 ((flowL p r f).drop 1) = true
            · rw [if_pos c6]
              exact ⟨c1, c2, c3.1, c3.2, by omega, c5, c6, rfl⟩
            · rw [if_neg c6] at h; simp at h
          · rw [if_neg c5] at h; simp at h
      · rw [if_neg c3] at h; simp at h
    · rw [if_neg c2] at h; simp at h
  · rw [if_neg c1] at h; simp at h
/-- what the flow's list holds in the end -/
theorem flow_inv {p r : Int} {f : List Int} (c1 : p = 2 ∨ p = 3 ∨ p = 5 ∨ p = 7) (c2 : 1 ≤ r ∧ r ≤ 4) (c3 : (f.length : Int) = szN p r.toNat - szN p (r - 1).toNat) (c4 : allB 1000000 f = true) : ∀ j : Nat, j < szs p r + f.length → (flowL p r f).getD j 0 = (List.replicate (szs p r) 0 ++ f).getD j 0 + S p (j : Int) (flowL p r f) 0 (szs p r + f.length - 1) := by
  obtain ⟨s1, s2, s3, s4, s5, s6, s7, s8, s9⟩ := setup c1 c2 c3 c4
  have hlen : (List.replicate (szs p r) 0 ++ f).length = szs p r + f.length := by rw [List.length_append, List.length_replicate]
  have := push_inv (p := p) (s := (szs p r : Int)) c1 (by omega) (List.replicate (szs p r) 0 ++ f) (by rw [hlen]; omega) (szs p r + f.length - 1) (List.replicate (szs p r) 0 ++ f) (by rw [hlen]; omega) ⟨rfl, fun j hj => by rw [hlen, Nat.sub_self]; simp [S]⟩
  obtain ⟨_, h⟩ := this
  intro j hj
  have := h j (by rw [hlen]; exact hj)
  rw [hlen, Nat.sub_zero] at this
  exact this
theorem keeps_flow {p r : Int} {f : List Int} (h : (res p r f).2 = 0) : KR.res p r (res p r f).1 = (true, 0) := by
  obtain ⟨c1, c2, c3, c4, c5, c6, c7, c8⟩ := res0 h
  obtain ⟨s1, s2, s3, s4, s5, s6, s7, s8, s9⟩ := setup c1 c2 c3 c4
  obtain ⟨f1, f2⟩ := flow_head c1 c2 c3 c4
  have hinv := flow_inv c1 c2 c3 c4
  rw [c8]
  have hcode : codeL p r ((flowL p r f).drop 1) 1 0 = 0 := by
    unfold codeL
    rw [if_neg (fun z => z c1), if_neg (by omega), if_pos ⟨by rw [List.length_drop, f2]; omega, c7⟩, if_neg (by omega)]
  have hk : ∀ d i : Nat, i + d = szs p r → KR.keepsM p ((flowL p r f).drop 1) d i = true := by
    intro d
    induction d with
    | zero => intro i _; rfl
    | succ d ih =>
      intro i hi
      have hb := fc_bd p (i : Int) c1 (by omega) (by omega)
      have hin : fc p (i : Int) + cn p (i : Int) ≤ p * (szs p r : Int) + 2 := by
        rw [hb.2.2.2.2.2]
        have : p * ((i : Int) + 1) ≤ p * (szs p r : Int) := Int.mul_le_mul_of_nonneg_left (by omega) (by omega)
        rw [Int.mul_add, Int.mul_one] at this; omega
      obtain ⟨a, ha⟩ := Int.eq_ofNat_of_zero_le (show 0 ≤ fc p (i : Int) by omega)
      obtain ⟨m, hm⟩ := Int.eq_ofNat_of_zero_le (show 0 ≤ cn p (i : Int) by omega)
      have hS := S_blk p (i : Int) (flowL p r f) (szs p r + f.length - 1) 0 a m (fun c hc hc2 => by
        rw [par_iff c1 (by omega) (by omega), ha, hm]; omega) (Or.inr ⟨by omega, by omega⟩)
      have hv := hinv i (by omega)
      rw [hS] at hv
      have h0 : (List.replicate (szs p r) 0 ++ f).getD i 0 = 0 := by
        rw [List.getD_eq_getElem?_getD, List.getElem?_append_left (by rw [List.length_replicate]; omega), List.getElem?_replicate, if_pos (by omega)]; rfl
      rw [h0] at hv
      simp only [KR.keepsM]
      rw [ha, hm, Int.toNat_natCast, sumI_B _ m a (by omega)]
      rw [if_pos (by
        by_cases z : (i : Int) > 0
        · rw [if_pos z, rd_drop _ i (by omega)]; omega
        · obtain rfl : i = 0 := by omega
          rw [if_neg z]; omega)]
      exact ih (i + 1) (by omega)
  unfold KR.res
  rw [if_pos hcode, if_neg (by omega), show (szN p (r - 1).toNat).toNat = szs p r from rfl, hk (szs p r) 0 (by omega)]
theorem tail_flow {p r : Int} {f : List Int} (h : (res p r f).2 = 0) : (res p r f).1.length = szs p r - 1 + f.length ∧ 1 ≤ szs p r ∧ szs p r + f.length ≤ 5000 ∧ ∀ i : Nat, i < f.length → rd (res p r f).1 ((szs p r - 1 + i : Nat) : Int) = rd f (i : Int) := by
  obtain ⟨c1, c2, c3, c4, c5, c6, c7, c8⟩ := res0 h
  obtain ⟨s1, s2, s3, s4, s5, s6, s7, s8, s9⟩ := setup c1 c2 c3 c4
  obtain ⟨f1, f2⟩ := flow_head c1 c2 c3 c4
  have hinv := flow_inv c1 c2 c3 c4
  rw [c8]
  refine ⟨by rw [List.length_drop, f2]; omega, s1, s5, fun i hi => ?_⟩
  have hv := hinv (szs p r + i) (by omega)
  have hS := S_blk p ((szs p r + i : Nat) : Int) (flowL p r f) (szs p r + f.length - 1) 0 0 0 (fun c hc hc2 => by
    have := parI_bd (i := (c : Int)) (s := (szs p r : Int)) c1 (by omega) (by omega) (by omega)
    omega) (Or.inl rfl)
  rw [hS, List.getD_eq_getElem?_getD (l := List.replicate (szs p r) 0 ++ f), List.getElem?_append_right (by rw [List.length_replicate]; omega), List.length_replicate, Nat.add_sub_cancel_left, ← List.getD_eq_getElem?_getD] at hv
  rw [show ((szs p r - 1 + i : Nat) : Int) = ((szs p r + i : Nat) : Int) - 1 by omega, rd_drop _ _ (by omega), hv, rdD]
  simp [B]
end FL
theorem like_ok (l : List Int) (hl : l.length ≤ 1048576) : ∀ k, l.length + 1 ≤ k → laws_likeInts.f k l l = some true := by
  have go : ∀ (d k i : Nat), i + d = l.length → d < k → laws_likeInts.l0 k l l (i : Int) = some true := by
    intro d
    induction d with
    | zero =>
      intro k i h2 h3
      obtain ⟨k, rfl⟩ : ∃ m, k = m + 1 := ⟨k - 1, by omega⟩
      simp only [laws_likeInts.l0]
      rw [if_neg (by omega)]
    | succ d ih =>
      intro k i h2 h3
      obtain ⟨k, rfl⟩ : ∃ m, k = m + 1 := ⟨k - 1, by omega⟩
      simp only [laws_likeInts.l0]
      rw [if_pos (by omega), if_pos (by omega), if_pos (by omega), if_pos trivial, w64 (by omega) (by omega)]
      exact ih k (i + 1) (by omega) (by omega)
  intro k hk
  unfold laws_likeInts.f
  rw [if_pos rfl]
  exact go l.length k 0 (by omega) (by omega)
theorem end_ok (l : List Int) (hb : Byt l) (hl : l.length ≤ 4096) : ∃ K, ∀ k, K ≤ k → ((spec_DrawKeepsRule.f k l).bind fun bt974 => ((impl_KeepsRule.f k bt974.1 bt974.2.1 bt974.2.2).bind fun bt979 => ((spec_KeepsRule.f k bt974.1 bt974.2.1 bt974.2.2).bind fun bt981 => (if bt979.2 = bt981.2 then (some (bt979.1 == bt981.1)) else (some false))))) = some true := by
  obtain ⟨K, p, r, f, e, hf⟩ := drawK_ok l hb hl
  obtain ⟨K1, e1⟩ := KR.spec_res p r f hf
  obtain ⟨K2, e2⟩ := KR.impl_res p r f hf
  refine ⟨K + K1 + K2, fun k hk => ?_⟩
  rw [e k (by omega)]; simp only [Option.bind_some]
  rw [e2 k (by omega), e1 k (by omega)]; simp only [Option.bind_some]
  rw [if_pos trivial]; simp
theorem FnBoundaries : laws_FnBoundaries.Pure := by
  intro l _ _ hw
  have hb : Byt l := fun x hx => by
    have := hw x hx
    simp [Lit.wf, IntKind.min, IntKind.max, IntKind.bits, IntKind.signed] at this; omega
  by_cases hl : (l.length : Int) > 4096
  · exact ⟨0, by unfold laws_FnBoundaries.f laws_big.f; rw [decide_eq_true hl]; simp⟩
  have hl2 : l.length ≤ 4096 := by omega
  obtain ⟨K0, p, r, f, e0, hf⟩ := drawF_ok l hb hl2
  obtain ⟨K1, e1⟩ := FL.spec_res p r f (by omega)
  obtain ⟨K2, e2⟩ := FL.impl_res p r f (by omega)
  obtain ⟨K3, e3⟩ := end_ok l hb hl2
  have hlen := FL.res_length p r f (by omega)
  have e4 := like_ok (FL.res p r f).1 hlen
  by_cases c : (FL.res p r f).2 = 0
  · obtain ⟨t1, t2, t3, t4⟩ := FL.tail_flow c
    obtain ⟨K5, e5⟩ := KR.impl_res p r (FL.res p r f).1 hlen
    rw [FL.keeps_flow c] at e5
    have go : ∀ (d i k : Nat), i + d = f.length → K3 + d + 1 ≤ k → laws_FnBoundaries.l0 k l f (FL.res p r f).1 (i : Int) = some true := by
      intro d
      induction d with
      | zero =>
        intro i k hi hk
        obtain ⟨k, rfl⟩ : ∃ m, k = m + 1 := ⟨k - 1, by omega⟩
        simp only [laws_FnBoundaries.l0]
        rw [if_neg (by omega)]
        exact e3 k (by omega)
      | succ d ih =>
        intro i k hi hk
        obtain ⟨k, rfl⟩ : ∃ m, k = m + 1 := ⟨k - 1, by omega⟩
        simp only [laws_FnBoundaries.l0]
        rw [if_pos (by omega), w64 (n := ((FL.res p r f).1.length : Int) - (f.length : Int)) (by omega) (by omega), w64 (by omega) (by omega), if_pos (by omega), if_pos (by omega), if_pos (by omega), show ((FL.res p r f).1.length : Int) - (f.length : Int) + (i : Int) = ((FL.szs p r - 1 + i : Nat) : Int) by omega, if_pos (t4 i (by omega)), w64 (n := (i : Int) + 1) (by omega) (by omega), show (i : Int) + 1 = ((i + 1 : Nat) : Int) by omega]
        exact ih (i + 1) k (by omega) (by omega)
    refine ⟨K0 + K1 + K2 + K3 + K5 + 1100000 + 1 + 1, ?_⟩
    unfold laws_FnBoundaries.f laws_big.f
    rw [decide_eq_false hl]
    simp only [Option.bind_some]
    rw [if_neg (by simp), e0 _ (by omega)]; simp only [Option.bind_some]
    rw [e2 _ (by omega), e1 _ (by omega)]; simp only [Option.bind_some]
    rw [if_pos trivial, e4 _ (by omega)]; simp only [Option.bind_some, laws_FnBoundaries.j0]
    rw [if_neg (by simp), if_pos c, e5 _ (by omega)]; simp only [Option.bind_some, if_true, laws_FnBoundaries.j1]
    rw [decide_eq_false (by omega), if_neg (by simp)]
    exact go f.length 0 _ (by omega) (by omega)
  · refine ⟨K0 + K1 + K2 + K3 + 1100000 + 1 + 1, ?_⟩
    unfold laws_FnBoundaries.f laws_big.f
    rw [decide_eq_false hl]
    simp only [Option.bind_some]
    rw [if_neg (by simp), e0 _ (by omega)]; simp only [Option.bind_some]
    rw [e2 _ (by omega), e1 _ (by omega)]; simp only [Option.bind_some]
    rw [if_pos trivial, e4 _ (by omega)]; simp only [Option.bind_some, laws_FnBoundaries.j0]
    rw [if_neg (by simp), if_neg c]
    exact e3 _ (by omega)

end Go.Proofs.Ytfkglijnbgijbaa.Pure
