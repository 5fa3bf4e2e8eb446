/- The program's NeighbourSums and the reference's return the same, for all arguments: the printed functions' law answers true. -/
import Derived.Test.YtakfeaomdkapaaaPAllx8
import Derived.Test.YtakfeaomdkapaaaMath
set_option linter.unusedVariables false
set_option linter.unusedSimpArgs false
namespace Go.Proofs.Ytakfeaomdkapaaa.Pure
open Go.RowKit Go.Proofs.Ytakfeaomdkapaaa.PAll Go.Proofs.YtakfeaomdkapaaaW.PrintWords Go.Proofs.YtakfeaomdkapaaaW.PrintLast PM

theorem w64 {n : Int} (h1 : -9223372036854775808 ≤ n) (h2 : n ≤ 9223372036854775807) : wrap64 n = n := by unfold wrap64; omega
theorem wfb {n : Int} (h : (Lit.int .i64 n).wf = true) : -9223372036854775808 ≤ n ∧ n ≤ 9223372036854775807 := by
  simp [Lit.wf, IntKind.min, IntKind.max, IntKind.bits, IntKind.signed] at h; omega
theorem rd_nat (l : List Int) (i : Nat) (h : i < l.length) : l[i]? = some (rd l (i : Int)) := by
  unfold rd; simp [List.getD_eq_getElem?_getD, h]

theorem toInts (l : List Int) (hl : l.length ≤ 1048576) : ∃ K, ∀ k, K ≤ k → laws_toInt64S.f k l = some l := by
  have go : ∀ (d k : Nat) (acc : List Int) (i : Nat), acc.length = l.length → i + d = l.length → d < k → (∀ j, j < i → acc[j]? = l[j]?) → laws_toInt64S.l0 k l acc i = some l := by
    intro d
    induction d with
    | zero =>
      intro k acc i h1 h2 h3 h4
      obtain ⟨k, rfl⟩ : ∃ m, k = m + 1 := ⟨k - 1, by omega⟩
      simp only [laws_toInt64S.l0]
      rw [if_neg (by omega)]
      congr 1
      apply List.ext_getElem?
      intro j
      by_cases hj : j < i
      · exact h4 j hj
      · rw [List.getElem?_eq_none (by omega), List.getElem?_eq_none (by omega)]
    | succ d ih =>
      intro k acc i h1 h2 h3 h4
      obtain ⟨k, rfl⟩ : ∃ m, k = m + 1 := ⟨k - 1, by omega⟩
      simp only [laws_toInt64S.l0]
      rw [if_pos (by omega), if_pos (by omega), if_pos (by omega), w64 (by omega) (by omega)]
      refine ih k _ (i + 1) (by rw [List.length_set]; exact h1) (by omega) (by omega) fun j hj => ?_
      by_cases e : j = i
      · subst e
        rw [show ((j : Int).toNat) = j from by omega, List.getElem?_set_self (by omega), rd_nat l j (by omega)]
      · rw [List.getElem?_set_ne (by omega)]
        exact h4 j (by omega)
  refine ⟨l.length + 1, fun k hk => ?_⟩
  unfold laws_toInt64S.f
  rw [if_pos (by omega), if_pos (by omega)]
  exact go l.length k _ 0 (by simp) (by omega) (by omega) (by intro j hj; omega)

theorem eqInts (l : List Int) (hl : l.length ≤ 1048576) : ∃ K, ∀ k, K ≤ k → laws_eqInt64S.f k l l = some true := by
  have go : ∀ (d k i : Nat), i + d = l.length → d < k → laws_eqInt64S.l0 k l l i = some true := by
    intro d
    induction d with
    | zero =>
      intro k i h2 h3
      obtain ⟨k, rfl⟩ : ∃ m, k = m + 1 := ⟨k - 1, by omega⟩
      simp only [laws_eqInt64S.l0]
      rw [if_neg (by omega)]
    | succ d ih =>
      intro k i h2 h3
      obtain ⟨k, rfl⟩ : ∃ m, k = m + 1 := ⟨k - 1, by omega⟩
      simp only [laws_eqInt64S.l0]
      rw [if_pos (by omega), if_pos (by omega), if_pos (by omega), if_pos trivial, w64 (by omega) (by omega)]
      exact ih k (i + 1) (by omega) (by omega)
  refine ⟨l.length + 1, fun k hk => ?_⟩
  unfold laws_eqInt64S.f
  rw [if_pos rfl]
  exact go l.length k 0 (by omega) (by omega)

theorem markInts (l : List Int) (hl : l.length ≤ 1048576) : ∃ m : List Int, (m.length = l.length ∧ ∃ K, ∀ k, K ≤ k → laws_markInt64S.f k l 1 = some (1 + (l.length : Int), m)) ∧ ∃ K, ∀ k, K ≤ k → laws_heldInt64S.f k m 1 = some (1 + (l.length : Int)) := by
  have go : ∀ (d : Nat) (acc : List Int) (i : Nat), acc.length = l.length → i + d = l.length → (∀ j : Nat, j < i → acc[j]? = some (1 + (j : Int))) → ∃ m : List Int, (m.length = l.length ∧ ∀ j : Nat, j < l.length → m[j]? = some (1 + (j : Int))) ∧ ∀ k, d < k → laws_markInt64S.l0 k acc (1 + (i : Int)) i = some (1 + (l.length : Int), m) := by
    intro d
    induction d with
    | zero =>
      intro acc i h1 h2 h4
      refine ⟨acc, ⟨h1, fun j hj => h4 j (by omega)⟩, fun k h3 => ?_⟩
      obtain ⟨k, rfl⟩ : ∃ m, k = m + 1 := ⟨k - 1, by omega⟩
      simp only [laws_markInt64S.l0]
      rw [if_neg (by omega)]
      obtain rfl : i = l.length := by omega
      rfl
    | succ d ih =>
      intro acc i h1 h2 h4
      obtain ⟨m, hm, hk⟩ := ih (acc.set i (1 + (i : Int))) (i + 1) (by rw [List.length_set]; exact h1) (by omega) (fun j hj => by
        by_cases e : j = i
        · subst e
          rw [List.getElem?_set_self (by omega)]
        · rw [List.getElem?_set_ne (by omega)]
          exact h4 j (by omega))
      refine ⟨m, hm, fun k h3 => ?_⟩
      obtain ⟨k, rfl⟩ : ∃ m, k = m + 1 := ⟨k - 1, by omega⟩
      simp only [laws_markInt64S.l0]
      rw [if_pos (by omega), if_pos (by omega), w64 (n := 1 + (i : Int) + 1) (by omega) (by omega), w64 (by omega) (by omega), show ((i : Int).toNat) = i from by omega]
      have := hk k (by omega)
      rw [show (1 + (((i + 1 : Nat) : Int))) = 1 + (i : Int) + 1 from by omega, show (((i + 1 : Nat) : Int)) = (i : Int) + 1 from by omega] at this
      exact this
  obtain ⟨m, ⟨hm1, hm2⟩, hm3⟩ := go l.length l 0 rfl (by omega) (by intro j hj; omega)
  have ho : ∀ (d k i : Nat), i + d = m.length → d < k → laws_heldInt64S.l0 k m (1 + (i : Int)) i = some (1 + (l.length : Int)) := by
    intro d
    induction d with
    | zero =>
      intro k i h2 h3
      obtain ⟨k, rfl⟩ : ∃ m, k = m + 1 := ⟨k - 1, by omega⟩
      simp only [laws_heldInt64S.l0]
      rw [if_neg (by omega)]
      obtain rfl : i = l.length := by omega
      rfl
    | succ d ih =>
      intro k i h2 h3
      obtain ⟨k, rfl⟩ : ∃ m, k = m + 1 := ⟨k - 1, by omega⟩
      simp only [laws_heldInt64S.l0]
      have e1 := hm2 i (by omega)
      rw [rd_nat m i (by omega)] at e1
      rw [if_pos (by omega), if_pos (by omega), if_pos (Option.some.inj e1), w64 (n := 1 + (i : Int) + 1) (by omega) (by omega), w64 (by omega) (by omega)]
      have := ih k (i + 1) (by omega) (by omega)
      rw [show (1 + (((i + 1 : Nat) : Int))) = 1 + (i : Int) + 1 from by omega, show (((i + 1 : Nat) : Int)) = (i : Int) + 1 from by omega] at this
      exact this
  exact ⟨m, ⟨hm1, l.length + 1, fun k hk => hm3 k (by omega)⟩, l.length + 1, fun k hk => ho m.length k 0 (by omega) (by omega)⟩

theorem prime_cases (p : Int) : (spec_l01Prime.f p = some true ∧ (p = 2 ∨ p = 3 ∨ p = 5 ∨ p = 7)) ∨ (spec_l01Prime.f p = some false ∧ ¬ (p = 2 ∨ p = 3 ∨ p = 5 ∨ p = 7)) := by
  unfold spec_l01Prime.f
  by_cases h2 : p = 2
  · simp [h2]
  by_cases h3 : p = 3
  · simp [h3]
  by_cases h5 : p = 5
  · simp [h5]
  by_cases h7 : p = 7
  · simp [h7]
  · simp [h2, h3, h5, h7]

theorem isPrime_eq (p : Int) : impl_isPrime.f p = spec_l01Prime.f p := rfl

theorem in_eq (n a b : Int) : spec_l01In.f n a b = some (decide (a ≤ n ∧ n ≤ b)) := by
  unfold spec_l01In.f
  by_cases h : a ≤ n
  · rw [if_pos h]; simp [h]
  · rw [if_neg (by omega)]; simp [h]

theorem parent_eq (p i : Int) (hp : p = 2 ∨ p = 3 ∨ p = 5 ∨ p = 7) (h0 : -1000000 ≤ i) (h1 : i ≤ 1000000) : spec_l07Parent.f p i = some (if i ≤ p + 1 then 0 else (i - p - 2) / p + 1) := by
  unfold spec_l07Parent.f
  rw [w64 (by omega) (by omega)]
  by_cases h : i ≤ p + 1
  · rw [if_pos h, if_pos h]
  · rw [if_neg h, if_neg h, if_neg (by omega), w64 (n := i - p) (by omega) (by omega), w64 (n := i - p - 2) (by omega) (by omega), Int.tdiv_eq_ediv_of_nonneg (by omega)]
    have : 0 ≤ (i - p - 2) / p ∧ (i - p - 2) / p ≤ 1000000 := by
      rcases hp with rfl | rfl | rfl | rfl <;> omega
    rw [w64 (n := (i - p - 2) / p) (by omega) (by omega), w64 (by omega) (by omega)]

theorem parentPlace_eq (p i : Int) : impl_parentPlace.f p i = spec_l07Parent.f p i := rfl

/-- the number of places of a region -/
def szN (p : Int) : Nat → Int
  | 0 => 1
  | n + 1 => p * szN p n + 2
theorem size_eq (p r : Int) (hp : p = 2 ∨ p = 3 ∨ p = 5 ∨ p = 7) (h0 : 0 ≤ r) (h1 : r ≤ 4) : ∀ k, 6 ≤ k → spec_l07Size.f k p r = some (szN p r.toNat) := by
  intro k hk
  refine at_rounds (g := fun k => spec_l07Size.f k p r) (fun k => spec_l07Size.mono p r k) hk ?_
  have hr : r = 0 ∨ r = 1 ∨ r = 2 ∨ r = 3 ∨ r = 4 := by omega
  rcases hp with rfl | rfl | rfl | rfl <;> rcases hr with rfl | rfl | rfl | rfl | rfl <;> decide +kernel
theorem szN_bd (p r : Int) (hp : p = 2 ∨ p = 3 ∨ p = 5 ∨ p = 7) (h0 : 0 ≤ r) (h1 : r ≤ 4) : 1 ≤ szN p r.toNat ∧ szN p r.toNat ≤ 5000 := by
  have hr : r = 0 ∨ r = 1 ∨ r = 2 ∨ r = 3 ∨ r = 4 := by omega
  rcases hp with rfl | rfl | rfl | rfl <;> rcases hr with rfl | rfl | rfl | rfl | rfl <;> decide +kernel
theorem szN_succ (p r : Int) (h0 : 1 ≤ r) : szN p r.toNat = p * szN p (r - 1).toNat + 2 := by
  rw [show r.toNat = (r - 1).toNat + 1 from by omega]; rfl
theorem szN_step (p r : Int) (hp : p = 2 ∨ p = 3 ∨ p = 5 ∨ p = 7) (h0 : 1 ≤ r) (h1 : r ≤ 4) {i : Int} (hi : i < szN p (r - 1).toNat) : p * i + p + 2 ≤ szN p r.toNat ∧ szN p (r - 1).toNat ≤ szN p r.toNat := by
  have hb := szN_bd p (r - 1) hp (by omega) (by omega)
  rw [szN_succ p r h0]
  generalize szN p (r - 1).toNat = s at *
  rcases hp with rfl | rfl | rfl | rfl <;> omega

theorem rsize_eq (p r : Int) (hp : p = 2 ∨ p = 3 ∨ p = 5 ∨ p = 7) (h0 : 0 ≤ r) (h1 : r ≤ 4) : ∀ k, 6 ≤ k → impl_regionSize.f k p r = some (szN p r.toNat) := by
  intro k hk
  refine at_rounds (g := fun k => impl_regionSize.f k p r) (fun k => impl_regionSize.mono p r k) hk ?_
  have hr : r = 0 ∨ r = 1 ∨ r = 2 ∨ r = 3 ∨ r = 4 := by omega
  rcases hp with rfl | rfl | rfl | rfl <;> rcases hr with rfl | rfl | rfl | rfl | rfl <;> decide +kernel

/-- all numbers of a list have absolute values of at most so much -/
def allB (m : Int) (l : List Int) : Bool := l.all fun x => decide (-m ≤ x ∧ x ≤ m)
theorem allB_drop (m : Int) (l : List Int) (i : Nat) (h : i < l.length) : allB m (l.drop i) = (decide (-m ≤ rd l i ∧ rd l i ≤ m) && allB m (l.drop (i + 1))) := by
  have h1 := rd_nat l i h
  rw [List.getElem?_eq_getElem h] at h1
  rw [List.drop_eq_getElem_cons h, Option.some.inj h1]; rfl
theorem allB_rd {m : Int} {l : List Int} (h : allB m l = true) {i : Int} (h0 : 0 ≤ i) (h1 : i < l.length) : -m ≤ rd l i ∧ rd l i ≤ m := by
  obtain ⟨n, rfl⟩ := Int.eq_ofNat_of_zero_le h0
  have h2 := rd_nat l n (by omega)
  rw [List.getElem?_eq_getElem (by omega)] at h2
  unfold allB at h
  rw [List.all_eq_true] at h
  have := h (l[n]'(by omega)) (List.getElem_mem _)
  rw [Option.some.inj h2] at this
  simpa using this

theorem vals_eq (l : List Int) (hl : l.length ≤ 1048576) : ∃ K, ∀ k, K ≤ k → spec_l07Values.f k l = some (allB 1000000 l) := by
  have go : ∀ (d k i : Nat), i + d = l.length → d < k → spec_l07Values.l0 k l i = some (allB 1000000 (l.drop i)) := by
    intro d
    induction d with
    | zero =>
      intro k i h2 h3
      obtain ⟨k, rfl⟩ : ∃ m, k = m + 1 := ⟨k - 1, by omega⟩
      simp only [spec_l07Values.l0]
      rw [if_neg (by omega), List.drop_eq_nil_of_le (by omega)]; rfl
    | succ d ih =>
      intro k i h2 h3
      obtain ⟨k, rfl⟩ : ∃ m, k = m + 1 := ⟨k - 1, by omega⟩
      simp only [spec_l07Values.l0]
      rw [if_pos (by omega), if_pos (by omega), in_eq, allB_drop _ _ _ (by omega), w64 (by omega) (by omega)]
      have := ih k (i + 1) (by omega) (by omega)
      rw [show ((i : Int) + 1) = ((i + 1 : Nat) : Int) from by omega, this]
      simp only [Option.bind_some]
      by_cases h : -1000000 ≤ rd l (i : Int) ∧ rd l (i : Int) ≤ 1000000
      · rw [decide_eq_true h]; simp
      · rw [decide_eq_false h]; simp
  exact ⟨l.length + 1, fun k hk => by
    have := go l.length k 0 (by omega) (by omega)
    simpa [spec_l07Values.f] using this⟩

theorem within_eq (m : Int) (hm : 0 ≤ m) (hm2 : m ≤ 1000000000000000000) (l : List Int) (hl : l.length ≤ 1048576) : ∃ K, ∀ k, K ≤ k → impl_within.f k m l = some (allB m l) := by
  have go : ∀ (d k i : Nat), i + d = l.length → d < k → impl_within.l0 k m l l.length i = some (allB m (l.drop i)) := by
    intro d
    induction d with
    | zero =>
      intro k i h2 h3
      obtain ⟨k, rfl⟩ : ∃ m, k = m + 1 := ⟨k - 1, by omega⟩
      simp only [impl_within.l0]
      rw [if_neg (by omega), List.drop_eq_nil_of_le (by omega)]; rfl
    | succ d ih =>
      intro k i h2 h3
      obtain ⟨k, rfl⟩ : ∃ m, k = m + 1 := ⟨k - 1, by omega⟩
      simp only [impl_within.l0]
      rw [if_pos (by omega), if_pos (by omega), if_pos (by omega), allB_drop _ _ _ (by omega), w64 (n := -m) (by omega) (by omega), w64 (by omega) (by omega)]
      have := ih k (i + 1) (by omega) (by omega)
      rw [show ((i : Int) + 1) = ((i + 1 : Nat) : Int) from by omega, this]
      by_cases h : rd l (i : Int) < -m
      · rw [if_pos h, decide_eq_false (by omega)]; rfl
      · rw [if_neg h]
        by_cases h' : rd l (i : Int) > m
        · rw [if_pos h', decide_eq_false (by omega)]; rfl
        · rw [if_neg h', decide_eq_true (by omega)]; rfl
  exact ⟨l.length + 1, fun k hk => by
    have := go l.length k 0 (by omega) (by omega)
    simpa [impl_within.f] using this⟩

/-- the code of a prime, a radius, and a list -/
def codeL (p r : Int) (l : List Int) (less least : Int) : Int :=
  if ¬ (p = 2 ∨ p = 3 ∨ p = 5 ∨ p = 7) then 1 else if r < least ∨ 4 < r then 2 else if (l.length : Int) + less = szN p r.toNat ∧ allB 1000000 l = true then (if szN p r.toNat > 500 then 3 else 0) else 2
theorem codeL_cases (p r : Int) (l : List Int) (less least : Int) : (codeL p r l less least = 0 ∧ (p = 2 ∨ p = 3 ∨ p = 5 ∨ p = 7) ∧ least ≤ r ∧ r ≤ 4 ∧ (l.length : Int) + less = szN p r.toNat ∧ szN p r.toNat ≤ 500 ∧ allB 1000000 l = true) ∨ codeL p r l less least = 1 ∨ codeL p r l less least = 2 ∨ codeL p r l less least = 3 := by
  unfold codeL
  by_cases h1 : (p = 2 ∨ p = 3 ∨ p = 5 ∨ p = 7)
  · rw [if_neg (not_not_intro h1)]
    by_cases h2 : r < least ∨ 4 < r
    · rw [if_pos h2]; simp
    · rw [if_neg h2]
      by_cases h3 : (l.length : Int) + less = szN p r.toNat ∧ allB 1000000 l = true
      · rw [if_pos h3]
        by_cases h4 : szN p r.toNat > 500
        · rw [if_pos h4]; simp
        · rw [if_neg h4]
          refine Or.inl ⟨rfl, h1, by omega, by omega, h3.1, by omega, h3.2⟩
      · rw [if_neg h3]; simp
  · rw [if_pos h1]; simp

theorem list_eq (p r : Int) (l : List Int) (less : Int) (hl : l.length ≤ 1048576) (hs : less = 0 ∨ less = 1) : ∃ K, ∀ k, K ≤ k → spec_l07List.f k p r l less = some (codeL p r l less 0) := by
  obtain ⟨K, hv⟩ := vals_eq l hl
  refine ⟨K + 8, fun k hk => ?_⟩
  unfold spec_l07List.f spec_l07Code.f
  obtain ⟨k, rfl⟩ : ∃ m, k = m + 1 := ⟨k - 1, by omega⟩
  rcases prime_cases p with ⟨h, hp⟩ | ⟨h, hp⟩
  · rw [h, in_eq]
    simp only [Option.bind_some, if_true]
    by_cases hr : 0 ≤ r ∧ r ≤ 4
    · have hb := szN_bd p r hp hr.1 hr.2
      rw [decide_eq_true hr, size_eq p r hp hr.1 hr.2 _ (by omega)]
      unfold codeL
      rw [if_neg (not_not_intro hp), if_neg (show ¬ (r < 0 ∨ 4 < r) by omega)]
      have hj : ∀ c, spec_l07List.j0 (k + 1) p r l less c false = some (if (l.length : Int) + less = szN p r.toNat ∧ allB 1000000 l = true then c else 2) := by
        intro c
        simp only [spec_l07List.j0]
        rw [if_neg (by simp), size_eq p r hp hr.1 hr.2 _ (by omega)]
        simp only [Option.bind_some]
        rw [w64 (by omega) (by omega), hv k (by omega)]
        by_cases e1 : (l.length : Int) + less = szN p r.toNat
        · rw [if_pos e1]
          simp only [Option.bind_some]
          by_cases e2 : allB 1000000 l = true
          · rw [if_pos e2, if_pos ⟨e1, e2⟩]
          · rw [if_neg e2, if_neg (fun h => e2 h.2)]
        · rw [if_neg e1, if_neg (fun h => e1 h.1)]
      by_cases h5 : szN p r.toNat > 500
      · simp [h5, hj]
      · simp [h5, hj]
    · rw [decide_eq_false hr]
      unfold codeL
      rw [if_neg (not_not_intro hp), if_pos (show (r < 0 ∨ 4 < r) by omega)]
      simp [spec_l07List.j0]
  · rw [h]
    unfold codeL
    rw [if_pos hp]
    simp [spec_l07List.j0]

theorem listCode_eq (p r least : Int) (l : List Int) (less : Int) (hl : l.length ≤ 1048576) (hs : less = 0 ∨ less = 1) (hle : 0 ≤ least) : ∃ K, ∀ k, K ≤ k → impl_listCode.f k p r least l less = some (codeL p r l less least) := by
  obtain ⟨K, hv⟩ := within_eq 1000000 (by omega) (by omega) l hl
  refine ⟨K + 8, fun k hk => ?_⟩
  unfold impl_listCode.f
  obtain ⟨k, rfl⟩ : ∃ m, k = m + 1 := ⟨k - 1, by omega⟩
  rw [isPrime_eq]
  have jt : impl_listCode.j0 (k + 1) p r true = some 2 := by simp [impl_listCode.j0]
  rcases prime_cases p with ⟨h, hp⟩ | ⟨h, hp⟩
  · rw [h]
    simp only [Option.bind_some, if_true]
    unfold codeL
    rw [if_neg (not_not_intro hp)]
    by_cases h1 : r < least
    · rw [if_pos h1, jt, if_pos (Or.inl h1)]
    · rw [if_neg h1]
      by_cases h2 : r > 4
      · rw [if_pos h2, jt, if_pos (Or.inr h2)]
      · rw [if_neg h2, if_neg (by omega), rsize_eq p r hp (by omega) (by omega) _ (by omega)]
        have hb := szN_bd p r hp (by omega) (by omega)
        simp only [Option.bind_some]
        rw [w64 (by omega) (by omega), hv (k + 1) (by omega)]
        by_cases e1 : (l.length : Int) + less = szN p r.toNat
        · rw [if_pos (by omega)]
          simp only [Option.bind_some]
          by_cases e2 : allB 1000000 l = true
          · rw [if_pos ⟨e1, e2⟩, e2]
            simp only [impl_listCode.j0, Bool.not_true]
            rw [if_neg (by simp), rsize_eq p r hp (by omega) (by omega) _ (by omega)]
            simp only [Option.bind_some]
            by_cases h5 : szN p r.toNat > 500
            · rw [if_pos h5, if_pos h5]
            · rw [if_neg h5, if_neg h5]
          · rw [if_neg (fun h => e2 h.2), Bool.eq_false_iff.mpr e2]; exact jt
        · rw [if_neg (by omega), jt, if_neg (fun h => e1 h.1)]
  · rw [h]
    unfold codeL
    rw [if_pos hp]
    simp

/-- the first child of a place, how many there are, and all of them -/
def fc (p i : Int) : Int := if i = 0 then 1 else p + 2 + (i - 1) * p
def cn (p i : Int) : Int := if i = 0 then p + 1 else p
def kids (p i : Int) (n : Nat) : List Int := (List.range n).map fun j : Nat => fc p i + (j : Int)
theorem fc_bd (p i : Int) (hp : p = 2 ∨ p = 3 ∨ p = 5 ∨ p = 7) (h0 : 0 ≤ i) (h1 : i ≤ 5000) : i < fc p i ∧ 1 ≤ fc p i ∧ fc p i ≤ 40000 ∧ 2 ≤ cn p i ∧ cn p i ≤ 8 ∧ fc p i + cn p i = p * i + p + 2 := by
  unfold fc cn
  rcases hp with rfl | rfl | rfl | rfl <;> split <;> omega
theorem kids_succ (p i : Int) (n : Nat) : kids p i (n + 1) = kids p i n ++ [fc p i + (n : Int)] := by
  unfold kids; rw [List.range_succ, List.map_append]; rfl
theorem kids_length (p i : Int) (n : Nat) : (kids p i n).length = n := by simp [kids]
theorem kids_rd (p i : Int) (n j : Nat) (h : j < n) : rd (kids p i n) (j : Int) = fc p i + (j : Int) := by
  have := rd_nat (kids p i n) j (by rw [kids_length]; exact h)
  simp only [kids, List.getElem?_map] at this
  rw [List.getElem?_range h] at this
  exact (Option.some.inj this).symm

theorem child_eq (p i : Int) (hp : p = 2 ∨ p = 3 ∨ p = 5 ∨ p = 7) (h0 : 0 ≤ i) (h1 : i ≤ 5000) : spec_l07Child.f p i = some (fc p i, cn p i) := by
  unfold spec_l07Child.f fc cn
  by_cases h : i = 0
  · rw [if_pos h, if_pos h, if_pos h, w64 (by omega) (by omega)]
  · rw [if_neg h, if_neg h, if_neg h, w64 (n := i - 1) (by omega) (by omega), w64 (n := p + 2) (by omega) (by omega)]
    have : 0 ≤ (i - 1) * p ∧ (i - 1) * p ≤ 50000 := by rcases hp with rfl | rfl | rfl | rfl <;> omega
    rw [w64 (n := (i - 1) * p) (by omega) (by omega), w64 (by omega) (by omega)]

theorem firstChild_eq (p i : Int) (hp : p = 2 ∨ p = 3 ∨ p = 5 ∨ p = 7) (h0 : 0 ≤ i) (h1 : i ≤ 5000) : impl_firstChild.f p i = some (fc p i) := by
  unfold impl_firstChild.f fc
  by_cases h : i = 0
  · rw [if_pos h, if_pos h]
  · rw [if_neg h, if_neg h, w64 (n := i - 1) (by omega) (by omega), w64 (n := p + 2) (by omega) (by omega)]
    have : 0 ≤ (i - 1) * p ∧ (i - 1) * p ≤ 50000 := by rcases hp with rfl | rfl | rfl | rfl <;> omega
    rw [w64 (n := (i - 1) * p) (by omega) (by omega), w64 (by omega) (by omega)]

theorem childPlaces_eq (p i : Int) (hp : p = 2 ∨ p = 3 ∨ p = 5 ∨ p = 7) (h0 : 0 ≤ i) (h1 : i ≤ 5000) : ∀ k, 12 ≤ k → impl_childPlaces.f k p i = some (kids p i (cn p i).toNat) := by
  have hb := fc_bd p i hp h0 h1
  have go : ∀ (d k j : Nat), j + d = (cn p i).toNat → d < k → impl_childPlaces.l0 k p i (kids p i j) (cn p i) j = some (kids p i (cn p i).toNat) := by
    intro d
    induction d with
    | zero =>
      intro k j h2 h3
      obtain ⟨k, rfl⟩ : ∃ m, k = m + 1 := ⟨k - 1, by omega⟩
      simp only [impl_childPlaces.l0]
      rw [if_neg (by omega)]
      obtain rfl : j = (cn p i).toNat := by omega
      rfl
    | succ d ih =>
      intro k j h2 h3
      obtain ⟨k, rfl⟩ : ∃ m, k = m + 1 := ⟨k - 1, by omega⟩
      simp only [impl_childPlaces.l0]
      rw [if_pos (by omega), firstChild_eq p i hp h0 h1]
      simp only [Option.bind_some]
      rw [if_pos (by rw [kids_length]; omega), w64 (by omega) (by omega), w64 (by omega) (by omega), ← kids_succ]
      exact ih k (j + 1) (by omega) (by omega)
  intro k hk
  obtain ⟨k, rfl⟩ : ∃ m, k = m + 1 := ⟨k - 1, by omega⟩
  have e := go (cn p i).toNat k 0 (by omega) (by omega)
  unfold impl_childPlaces.f
  by_cases h : i = 0
  · rw [if_pos h, w64 (by omega) (by omega)]
    simp only [impl_childPlaces.j0]
    have : cn p i = p + 1 := by unfold cn; rw [if_pos h]
    rw [this] at e ⊢; exact e
  · rw [if_neg h]
    simp only [impl_childPlaces.j0]
    have : cn p i = p := by unfold cn; rw [if_neg h]
    rw [this] at e ⊢; exact e

/-- a sum of so many values from a place on -/
def sumC (f : List Int) (a : Int) : Nat → Int → Int
  | 0, s => s
  | n + 1, s => sumC f (a + 1) n (wrap64 (s + rd f a))
theorem place_bd (p i : Int) (hp : p = 2 ∨ p = 3 ∨ p = 5 ∨ p = 7) (h0 : 1 ≤ i) (h1 : i ≤ 5000) : 0 ≤ (if i ≤ p + 1 then 0 else (i - p - 2) / p + 1) ∧ (if i ≤ p + 1 then 0 else (i - p - 2) / p + 1) < i := by
  rcases hp with rfl | rfl | rfl | rfl <;> split <;> omega

/-- the neighbour sum at a place -/
def nsum (p : Int) (f : List Int) (i : Int) : Int := sumC f (fc p i) (cn p i).toNat (if i > 0 then rd f (if i ≤ p + 1 then 0 else (i - p - 2) / p + 1) else 0)
def nsums (p : Int) (f : List Int) (n : Nat) : List Int := (List.range n).map fun j : Nat => nsum p f (j : Int)
theorem nsums_succ (p : Int) (f : List Int) (n : Nat) : nsums p f (n + 1) = nsums p f n ++ [nsum p f (n : Int)] := by
  unfold nsums; rw [List.range_succ, List.map_append]; rfl
theorem nsums_length (p : Int) (f : List Int) (n : Nat) : (nsums p f n).length = n := by simp [nsums]
theorem nsums_rd (p : Int) (f : List Int) (n j : Nat) (h : j < n) : rd (nsums p f n) (j : Int) = nsum p f (j : Int) := by
  have := rd_nat (nsums p f n) j (by rw [nsums_length]; exact h)
  simp only [nsums, List.getElem?_map] at this
  rw [List.getElem?_range h] at this
  exact (Option.some.inj this).symm
theorem l07Sums_eq (p r : Int) (f : List Int) (hp : p = 2 ∨ p = 3 ∨ p = 5 ∨ p = 7) (h0 : 1 ≤ r) (h1 : r ≤ 4) (hl : (f.length : Int) = szN p r.toNat) : ∃ K, ∀ k, K ≤ k → spec_l07Sums.f k p r f = some (nsums p f (szN p (r - 1).toNat).toNat) := by
  have hb := szN_bd p (r - 1) hp (by omega) (by omega)
  have hb2 := szN_bd p r hp (by omega) (by omega)
  have hs := szN_succ p r h0
  generalize hN : (szN p (r - 1).toNat).toNat = N
  have l1 : ∀ (d k : Nat) (acc : List Int) (i j : Nat) (s : Int), i < N → j + d = (cn p i).toNat → spec_l07Sums.l1 (k + d + 1) p r f acc i s (fc p i) (cn p i) j = if acc.length < 17592186044416 then spec_l07Sums.l0 k p r f (acc ++ [sumC f (fc p i + j) d s]) ((i + 1 : Nat) : Int) else none := by
    intro d
    induction d with
    | zero =>
      intro k acc i j s hi hj
      simp only [spec_l07Sums.l1]
      rw [if_neg (by omega), w64 (by omega) (by omega)]
      rfl
    | succ d ih =>
      intro k acc i j s hi hj
      have hf := fc_bd p i hp (by omega) (by omega)
      have hlt : p * (i : Int) + p ≤ p * szN p (r - 1).toNat := by
        have : p * ((i : Int) + 1) ≤ p * szN p (r - 1).toNat := Int.mul_le_mul_of_nonneg_left (by omega) (by omega)
        rw [Int.mul_add] at this; omega
      rw [show k + (d + 1) + 1 = (k + d + 1) + 1 from rfl]
      rw [spec_l07Sums.l1]
      rw [if_pos (by omega), w64 (n := fc p i + j) (by omega) (by omega), if_pos (by omega), if_pos (by omega), w64 (n := (j : Int) + 1) (by omega) (by omega)]
      have := ih k acc i (j + 1) (wrap64 (s + rd f (fc p i + j))) hi (by omega)
      rw [show ((j : Int) + 1) = ((j + 1 : Nat) : Int) from by omega, this]
      rw [show (fc p i + ((j + 1 : Nat) : Int)) = fc p i + j + 1 from by omega]
      rfl
  have l0 : ∀ (d i k : Nat), i + d = N → 16 * d + 16 ≤ k → spec_l07Sums.l0 k p r f (nsums p f i) i = some (nsums p f N) := by
    intro d
    induction d with
    | zero =>
      intro i k h2 h3
      obtain ⟨k, rfl⟩ : ∃ m, k = m + 1 := ⟨k - 1, by omega⟩
      simp only [spec_l07Sums.l0]
      rw [w64 (n := r - 1) (by omega) (by omega), size_eq p (r - 1) hp (by omega) (by omega) _ (by omega)]
      simp only [Option.bind_some]
      rw [if_neg (by omega)]
      obtain rfl : i = N := by omega
      rfl
    | succ d ih =>
      intro i k h2 h3
      obtain ⟨k, rfl⟩ : ∃ m, k = m + 2 := ⟨k - 2, by omega⟩
      have hf := fc_bd p i hp (by omega) (by omega)
      have hj : ∀ s, spec_l07Sums.j1 (k + 1) p r f (nsums p f i) i s = spec_l07Sums.l0 (k - (cn p i).toNat - 1) p r f (nsums p f i ++ [sumC f (fc p i) (cn p i).toNat s]) ((i + 1 : Nat) : Int) := by
        intro s
        simp only [spec_l07Sums.j1]
        rw [child_eq p i hp (by omega) (by omega)]
        simp only [Option.bind_some]
        have := l1 (cn p i).toNat (k - (cn p i).toNat - 1) (nsums p f i) i 0 s (by omega) (by omega)
        rw [show k - (cn p i).toNat - 1 + (cn p i).toNat + 1 = k from by omega] at this
        rw [if_pos (by rw [nsums_length]; omega), show (fc p i + ((0 : Nat) : Int)) = fc p i from by omega] at this
        exact this
      simp only [spec_l07Sums.l0]
      rw [w64 (n := r - 1) (by omega) (by omega), size_eq p (r - 1) hp (by omega) (by omega) _ (by omega)]
      simp only [Option.bind_some]
      rw [if_pos (by omega)]
      have hn := nsums_succ p f i
      unfold nsum at hn
      have hst := (szN_step p r hp (by omega) h1 (i := i) (by omega)).2
      by_cases h : (i : Int) > 0
      · have hpl := place_bd p i hp (by omega) (by omega)
        rw [if_pos h, parent_eq p i hp (by omega) (by omega)]
        rw [if_pos h] at hn
        simp only [Option.bind_some]
        rw [if_pos hpl.1, if_pos (by omega), hj, ← hn]
        exact ih (i + 1) _ (by omega) (by omega)
      · rw [if_neg h, hj]
        rw [if_neg h] at hn
        rw [← hn]
        exact ih (i + 1) _ (by omega) (by omega)
  refine ⟨16 * N + 16, fun k hk => ?_⟩
  unfold spec_l07Sums.f
  exact l0 N 0 k (by omega) hk

theorem neighbourSums_eq (p r : Int) (f : List Int) (hp : p = 2 ∨ p = 3 ∨ p = 5 ∨ p = 7) (h0 : 0 ≤ r) (h1 : r ≤ 4) (hl : (f.length : Int) = szN p r.toNat) : ∃ K, ∀ k, K ≤ k → impl_neighbourSums.f k p r f = some (if r = 0 then [] else nsums p f (szN p (r - 1).toNat).toNat) := by
  by_cases hr : r = 0
  · refine ⟨0, fun k _ => ?_⟩
    unfold impl_neighbourSums.f
    simp [hr]
  have hb := szN_bd p (r - 1) hp (by omega) (by omega)
  have hb2 := szN_bd p r hp (by omega) (by omega)
  have hs := szN_succ p r (by omega)
  rw [if_neg hr]
  generalize hN : (szN p (r - 1).toNat).toNat = N
  have hM : szN p (r - 1).toNat = (N : Int) := by omega
  have l1 : ∀ (d k : Nat) (acc : List Int) (i j : Nat) (s : Int), i < N → j + d = (cn p i).toNat → impl_neighbourSums.l1 (k + d + 1) p f acc s N i (kids p i (cn p i).toNat) ((kids p i (cn p i).toNat).length : Int) j = if acc.length < 17592186044416 then impl_neighbourSums.l0 k p f (acc ++ [sumC f (fc p i + j) d s]) N ((i + 1 : Nat) : Int) else none := by
    intro d
    induction d with
    | zero =>
      intro k acc i j s hi hj
      simp only [impl_neighbourSums.l1]
      rw [if_neg (by rw [kids_length]; omega), w64 (by omega) (by omega)]
      rfl
    | succ d ih =>
      intro k acc i j s hi hj
      have hf := fc_bd p i hp (by omega) (by omega)
      have hlt : p * (i : Int) + p ≤ p * szN p (r - 1).toNat := by
        have : p * ((i : Int) + 1) ≤ p * szN p (r - 1).toNat := Int.mul_le_mul_of_nonneg_left (by omega) (by omega)
        rw [Int.mul_add] at this; omega
      rw [show k + (d + 1) + 1 = (k + d + 1) + 1 from rfl]
      rw [impl_neighbourSums.l1]
      rw [kids_rd p i _ j (by omega)]
      rw [if_pos (by rw [kids_length]; omega), if_pos (by omega), if_pos (by rw [kids_length]; omega), if_pos (by omega), if_pos (by omega), w64 (n := (j : Int) + 1) (by omega) (by omega)]
      have := ih k acc i (j + 1) (wrap64 (s + rd f (fc p i + j))) hi (by omega)
      rw [show ((j : Int) + 1) = ((j + 1 : Nat) : Int) from by omega, this]
      rw [show (fc p i + ((j + 1 : Nat) : Int)) = fc p i + j + 1 from by omega]
      rfl
  have l0 : ∀ (d i k : Nat), i + d = N → 16 * d + 16 ≤ k → impl_neighbourSums.l0 k p f (nsums p f i) N i = some (nsums p f N) := by
    intro d
    induction d with
    | zero =>
      intro i k h2 h3
      obtain ⟨k, rfl⟩ : ∃ m, k = m + 1 := ⟨k - 1, by omega⟩
      simp only [impl_neighbourSums.l0]
      rw [if_neg (by omega)]
      obtain rfl : i = N := by omega
      rfl
    | succ d ih =>
      intro i k h2 h3
      obtain ⟨k, rfl⟩ : ∃ m, k = m + 2 := ⟨k - 2, by omega⟩
      have hf := fc_bd p i hp (by omega) (by omega)
      have hj : ∀ s, impl_neighbourSums.j1 (k + 1) p f (nsums p f i) i s N i = impl_neighbourSums.l0 (k - (cn p i).toNat - 1) p f (nsums p f i ++ [sumC f (fc p i) (cn p i).toNat s]) N ((i + 1 : Nat) : Int) := by
        intro s
        simp only [impl_neighbourSums.j1]
        rw [childPlaces_eq p i hp (by omega) (by omega) _ (by omega)]
        simp only [Option.bind_some]
        have := l1 (cn p i).toNat (k - (cn p i).toNat - 1) (nsums p f i) i 0 s (by omega) (by omega)
        rw [show k - (cn p i).toNat - 1 + (cn p i).toNat + 1 = k from by omega] at this
        rw [if_pos (by rw [nsums_length]; omega), show (fc p i + ((0 : Nat) : Int)) = fc p i from by omega] at this
        exact this
      simp only [impl_neighbourSums.l0]
      rw [if_pos (by omega)]
      have hn := nsums_succ p f i
      unfold nsum at hn
      have hst := (szN_step p r hp (by omega) h1 (i := i) (by omega)).2
      by_cases h : (i : Int) > 0
      · have hpl := place_bd p i hp (by omega) (by omega)
        rw [if_pos h, parentPlace_eq, parent_eq p i hp (by omega) (by omega)]
        rw [if_pos h] at hn
        simp only [Option.bind_some]
        rw [if_pos hpl.1, if_pos (by omega), hj, ← hn]
        exact ih (i + 1) _ (by omega) (by omega)
      · rw [if_neg h, hj]
        rw [if_neg h] at hn
        rw [← hn]
        exact ih (i + 1) _ (by omega) (by omega)
  refine ⟨16 * N + 22, fun k hk => ?_⟩
  unfold impl_neighbourSums.f
  simp only [Option.bind_some]
  rw [if_neg hr, w64 (by omega) (by omega), rsize_eq p (r - 1) hp (by omega) (by omega) _ (by omega), hM]
  simp only [Option.bind_some]
  exact l0 N 0 k (by omega) (by omega)

theorem all_drop {α : Type} (P : α → Bool) (l : List α) (i : Nat) (h : i < l.length) : (l.drop i).all P = (P (l[i]'h) && (l.drop (i + 1)).all P) := by
  rw [List.drop_eq_getElem_cons h]; rfl
theorem prDef (p : Int) : PM.Pr p = (p = 2 ∨ p = 3 ∨ p = 5 ∨ p = 7) := rfl
theorem tmod_zero_iff (n p : Int) : n.tmod p = 0 ↔ p ∣ n := Int.dvd_iff_tmod_eq_zero.symm

theorem pw_bd (p k : Int) (hp : Pr p) (h : k ≤ 20) : 1 ≤ pw p k ∧ pw p k ≤ 79792266297612001 := by
  have h1 := pw_pos2 hp k
  have h2 := pw_le hp h
  have h3 : pw p 20 ≤ 79792266297612001 := by
    rcases hp with rfl | rfl | rfl | rfl <;> decide +kernel
  omega
theorem pw_bd12 (p k : Int) (hp : Pr p) (h : k ≤ 12) : 1 ≤ pw p k ∧ pw p k ≤ 13841287201 := by
  have h1 := pw_pos2 hp k
  have h2 := pw_le hp h
  have h3 : pw p 12 ≤ 13841287201 := by
    rcases hp with rfl | rfl | rfl | rfl <;> decide +kernel
  omega
theorem pw_bd6 (p k : Int) (hp : Pr p) (h : k ≤ 6) : 1 ≤ pw p k ∧ pw p k ≤ 117649 := by
  have h1 := pw_pos2 hp k
  have h2 := pw_le hp h
  have h3 : pw p 6 ≤ 117649 := by
    rcases hp with rfl | rfl | rfl | rfl <;> decide +kernel
  omega
theorem pw_succ (p k : Int) (h : 0 ≤ k) : pw p (k + 1) = pw p k * p := by
  rw [pw_add h (by omega), pw_one]

theorem mx_neg (a : Int) (h : a.natAbs ≤ 9223372036854775807) : mx a (wrap64 (-a)) = (a.natAbs : Int) := by
  rw [w64 (by omega) (by omega)]; unfold mx; split <;> omega
theorem gcd_tmod (a b : Int) : Int.gcd b (a.tmod b) = Int.gcd a b := by
  have h := Int.gcd_add_mul_left_right b (a.tmod b) (a.tdiv b)
  rw [Int.tmod_add_mul_tdiv] at h
  rw [Int.gcd_comm a b]; exact h.symm

theorem isE_bd {n d : Int} (h : isE n d) : -1000000 ≤ n ∧ n ≤ 1000000 ∧ 0 ≤ d ∧ d ≤ 1000000 := by unfold isE at h; omega
theorem mul_bd {a b : Int} (h1 : -1000000 ≤ a) (h2 : a ≤ 1000000) (h3 : -1000000 ≤ b) (h4 : b ≤ 1000000) : -1000000000000 ≤ a * b ∧ a * b ≤ 1000000000000 := by
  have h : (a * b).natAbs ≤ 1000000 * 1000000 := by rw [Int.natAbs_mul]; exact Nat.mul_le_mul (by omega) (by omega)
  omega
def crs (n1 d1 n2 d2 : Int) : Int := n1 * d2 - n2 * d1
theorem crs_bd {n1 d1 n2 d2 : Int} (h1 : isE n1 d1) (h2 : isE n2 d2) : (crs n1 d1 n2 d2).natAbs ≤ 2000000000000 := by
  have a := isE_bd h1; have b := isE_bd h2
  have c := mul_bd (a := n1) (b := d2) (by omega) (by omega) (by omega) (by omega)
  have d := mul_bd (a := n2) (b := d1) (by omega) (by omega) (by omega) (by omega)
  unfold crs; omega
/-- two ends are the same if their cross is 0 -/
theorem crs_zero {n1 d1 n2 d2 : Int} (h1 : isE n1 d1) (h2 : isE n2 d2) (h : crs n1 d1 n2 d2 = 0) : n1 = n2 ∧ d1 = d2 := by
  unfold crs at h
  rcases h1 with ⟨a1, a2⟩ | ⟨a1, a2, a3, a4, a5⟩
  · rcases h2 with ⟨b1, b2⟩ | ⟨b1, b2, b3, b4, b5⟩
    · omega
    · subst a1 a2; simp at h; omega
  · rcases h2 with ⟨b1, b2⟩ | ⟨b1, b2, b3, b4, b5⟩
    · subst b1 b2; simp at h; omega
    · have e : n1 * d2 = n2 * d1 := by omega
      have e1 : d1 ∣ d2 := PM.dvd_of_dvd_mul_right_of_gcd_one (a := d1) (b := n1) (c := d2) ⟨n2, by rw [e, Int.mul_comm]⟩ (by rw [Int.gcd_comm]; exact a5)
      have e2 : d2 ∣ d1 := PM.dvd_of_dvd_mul_right_of_gcd_one (a := d2) (b := n2) (c := d1) ⟨n1, by rw [← e, Int.mul_comm]⟩ (by rw [Int.gcd_comm]; exact b5)
      have e3 : d1 = d2 := Int.dvd_antisymm (by omega) (by omega) e1 e2
      subst e3
      exact ⟨Int.eq_of_mul_eq_mul_right (by omega) e, rfl⟩

def gapz (p n1 d1 n2 d2 : Int) : Int := (vl p (crs n1 d1 n2 d2) : Int) - vl p d1 - vl p d2


def res (p r : Int) (f : List Int) : List Int × Int :=
  if codeL p r f 0 1 = 0 then (nsums p f (szN p (r - 1).toNat).toNat, 0) else ([], codeL p r f 0 1)
theorem code_least (p r : Int) (f : List Int) : codeL p r f 0 1 = if codeL p r f 0 0 = 1 ∨ codeL p r f 0 0 = 2 then codeL p r f 0 0 else if r < 1 then 2 else codeL p r f 0 0 := by
  unfold codeL
  by_cases hp : p = 2 ∨ p = 3 ∨ p = 5 ∨ p = 7
  · rw [if_neg (not_not_intro hp), if_neg (not_not_intro hp)]
    by_cases h : r < 1
    · rw [if_pos (Or.inl h)]
      by_cases h2 : r < 0
      · rw [if_pos (Or.inl h2)]; simp
      · rw [if_neg (show ¬ (r < 0 ∨ 4 < r) by omega), if_pos h]
        by_cases h3 : (f.length : Int) + 0 = szN p r.toNat ∧ allB 1000000 f = true
        · rw [if_pos h3]
          by_cases h4 : szN p r.toNat > 500
          · rw [if_pos h4]; simp
          · rw [if_neg h4]; simp
        · rw [if_neg h3]; simp
    · by_cases h2 : 4 < r
      · rw [if_pos (Or.inr h2), if_pos (Or.inr h2)]; simp
      · rw [if_neg (show ¬ (r < 1 ∨ 4 < r) by omega), if_neg (show ¬ (r < 0 ∨ 4 < r) by omega), if_neg h]; simp
  · rw [if_pos hp, if_pos hp]; simp
theorem spec_res (p r : Int) (f : List Int) (hl : f.length ≤ 1048576) : ∃ K, ∀ k, K ≤ k → spec_NeighbourSums.f k p r f = some (res p r f) := by
  obtain ⟨K, hK⟩ := list_eq p r f 0 hl (Or.inl rfl)
  have hc := code_least p r f
  have hj : ∀ k c, c ≠ 0 → spec_NeighbourSums.j0 (k + 1) p r f c false = some ([], c) := by
    intro k c h; simp only [spec_NeighbourSums.j0]; rw [if_neg (by simp), if_neg h]
  have hj2 : ∀ k c, spec_NeighbourSums.j0 (k + 1) p r f c true = some ([], 2) := by
    intro k c; simp [spec_NeighbourSums.j0]
  rcases codeL_cases p r f 0 0 with ⟨e, hp, h0, h1, h2, h3, h4⟩ | e | e | e
  · rw [e, if_neg (by omega)] at hc
    by_cases h5 : r < 1
    · rw [if_pos h5] at hc
      refine ⟨K + 2, fun k hk => ?_⟩
      obtain ⟨k, rfl⟩ : ∃ m, k = m + 1 := ⟨k - 1, by omega⟩
      unfold spec_NeighbourSums.f res
      rw [hK _ (by omega), e, hc]
      simp [h5, hj2]
    · rw [if_neg h5] at hc
      obtain ⟨K2, hs⟩ := l07Sums_eq p r f hp (by omega) h1 (by omega)
      refine ⟨K + K2 + 2, fun k hk => ?_⟩
      obtain ⟨k, rfl⟩ : ∃ m, k = m + 1 := ⟨k - 1, by omega⟩
      unfold spec_NeighbourSums.f res
      rw [hK _ (by omega), e, hc, if_pos rfl]
      simp only [Option.bind_some, if_true, spec_NeighbourSums.j0]
      rw [decide_eq_false h5, hs k (by omega)]
      simp
  · rw [e] at hc
    simp at hc
    refine ⟨K + 2, fun k hk => ?_⟩
    obtain ⟨k, rfl⟩ : ∃ m, k = m + 1 := ⟨k - 1, by omega⟩
    unfold spec_NeighbourSums.f res
    rw [hK _ (by omega), e, hc]
    simp [hj]
  · rw [e] at hc
    simp at hc
    refine ⟨K + 2, fun k hk => ?_⟩
    obtain ⟨k, rfl⟩ : ∃ m, k = m + 1 := ⟨k - 1, by omega⟩
    unfold spec_NeighbourSums.f res
    rw [hK _ (by omega), e, hc]
    simp [hj]
  · rw [e] at hc
    simp at hc
    refine ⟨K + 2, fun k hk => ?_⟩
    obtain ⟨k, rfl⟩ : ∃ m, k = m + 1 := ⟨k - 1, by omega⟩
    unfold spec_NeighbourSums.f res
    rw [hK _ (by omega), e, hc]
    by_cases h5 : r < 1
    · simp [h5, hj2]
    · simp [h5, hj]
theorem impl_res (p r : Int) (f : List Int) (hl : f.length ≤ 1048576) : ∃ K, ∀ k, K ≤ k → impl_NeighbourSums.f k p r f = some (res p r f) := by
  obtain ⟨K, hK⟩ := listCode_eq p r 1 f 0 hl (Or.inl rfl) (by omega)
  rcases codeL_cases p r f 0 1 with ⟨e, hp, h0, h1, h2, h3, h4⟩ | e | e | e
  · obtain ⟨K2, hs⟩ := neighbourSums_eq p r f hp (by omega) h1 (by omega)
    refine ⟨K + K2 + 2, fun k hk => ?_⟩
    unfold impl_NeighbourSums.f res
    rw [hK _ (by omega), e, if_pos rfl]
    simp only [Option.bind_some, if_true]
    rw [hs k (by omega), if_neg (by omega)]
    rfl
  · refine ⟨K, fun k hk => ?_⟩
    unfold impl_NeighbourSums.f res
    rw [hK _ (by omega), e]; simp
  · refine ⟨K, fun k hk => ?_⟩
    unfold impl_NeighbourSums.f res
    rw [hK _ (by omega), e]; simp
  · refine ⟨K, fun k hk => ?_⟩
    unfold impl_NeighbourSums.f res
    rw [hK _ (by omega), e]; simp
theorem res_length (p r : Int) (f : List Int) (_ : f.length ≤ 1048576) : (res p r f).1.length ≤ 1048576 := by
  unfold res
  rcases codeL_cases p r f 0 1 with ⟨e, hp, h0, h1, h2, h3, h4⟩ | e | e | e
  · have hb := szN_bd p (r - 1) hp (by omega) (by omega)
    rw [if_pos e]
    simp only [nsums_length]; omega
  · rw [e]; simp
  · rw [e]; simp
  · rw [e]; simp

theorem FnExactNeighbourSums : laws_FnExactNeighbourSums.Pure := by
  intro p r f _ _ _ _ _
  by_cases hl : (f.length : Int) > 1048576
  · exact ⟨0, by unfold laws_FnExactNeighbourSums.f; rw [if_pos hl]⟩
  have hl' : f.length ≤ 1048576 := by omega
  obtain ⟨K1, e1⟩ := toInts f hl'
  obtain ⟨K2, e2⟩ := spec_res p r f hl'
  obtain ⟨K3, e3⟩ := impl_res p r f hl'
  have hr := res_length p r f hl'
  generalize res p r f = w at *
  obtain ⟨w0, w1⟩ := w
  simp only at hr
  obtain ⟨K4, e4⟩ := eqInts w0 hr
  obtain ⟨K5, e5⟩ := eqInts f hl'
  obtain ⟨m, ⟨hm, K6, e6⟩, K7, e7⟩ := markInts w0 hr
  obtain ⟨m2, ⟨hm2, K8, e8⟩, _⟩ := markInts f hl'
  refine ⟨K1 + K2 + K3 + K4 + K5 + K6 + K7 + K8 + 5, ?_⟩
  generalize hK : K1 + K2 + K3 + K4 + K5 + K6 + K7 + K8 = K
  have e1 : ∀ j, laws_toInt64S.f (K + j) f = some f := fun j => e1 _ (by omega)
  have e2 : ∀ j, spec_NeighbourSums.f (K + j) p r f = some (w0, w1) := fun j => e2 _ (by omega)
  have e3 : ∀ j, impl_NeighbourSums.f (K + j) p r f = some (w0, w1) := fun j => e3 _ (by omega)
  have e4 : ∀ j, laws_eqInt64S.f (K + j) w0 w0 = some true := fun j => e4 _ (by omega)
  have e5 : ∀ j, laws_eqInt64S.f (K + j) f f = some true := fun j => e5 _ (by omega)
  have e6 : ∀ j, laws_markInt64S.f (K + j) w0 1 = some (1 + (w0.length : Int), m) := fun j => e6 _ (by omega)
  have e7 : ∀ j, laws_heldInt64S.f (K + j) m 1 = some (1 + (w0.length : Int)) := fun j => e7 _ (by omega)
  have e8 : ∀ j, laws_markInt64S.f (K + j) f 1 = some (1 + (f.length : Int), m2) := fun j => e8 _ (by omega)
  have n1 : ¬ (1 + (w0.length : Int) < 0) := by omega
  have n2 : ¬ (1 + (f.length : Int) < 0) := by omega
  simp [laws_FnExactNeighbourSums.f, laws_FnExactNeighbourSums.j0, laws_FnExactNeighbourSums.j1, laws_FnExactNeighbourSums.j2, e1, e2, e3, e4, e5, e6, e7, e8, hl', n1, n2]

end Go.Proofs.Ytakfeaomdkapaaa.Pure
