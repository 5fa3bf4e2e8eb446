/- The program's RegionSize and the reference's return the same, for all arguments: the printed functions' law answers true. -/
import Derived.Test.YtakfeaomdkapaaaPFnExactRegionSizex1
set_option linter.unusedVariables false
set_option linter.unusedSimpArgs false
namespace Go.Proofs.Ytakfeaomdkapaaa.Pure
open Go.RowKit Go.Proofs.Ytakfeaomdkapaaa.PFnExactRegionSize Go.Proofs.YtakfeaomdkapaaaW.PrintWords Go.Proofs.YtakfeaomdkapaaaW.PrintLast

theorem w64 {n : Int} (h1 : -9223372036854775808 ≤ n) (h2 : n ≤ 9223372036854775807) : wrap64 n = n := by unfold wrap64; omega
theorem wfb {n : Int} (h : (Lit.int .i64 n).wf = true) : -9223372036854775808 ≤ n ∧ n ≤ 9223372036854775807 := by
  simp [Lit.wf, IntKind.min, IntKind.max, IntKind.bits, IntKind.signed] at h; omega
theorem rd_nat (l : List Int) (i : Nat) (h : i < l.length) : l[i]? = some (rd l (i : Int)) := by
  unfold rd; simp [List.getD_eq_getElem?_getD, h]

theorem prime_cases (p : Int) : (spec_l01Prime.f p = some true ∧ (p = 2 ∨ p = 3 ∨ p = 5 ∨ p = 7)) ∨ (spec_l01Prime.f p = some false ∧ ¬ (p = 2 ∨ p = 3 ∨ p = 5 ∨ p = 7)) := by
  unfold spec_l01Prime.f
  by_cases h2 : p = 2
  · simp [h2]
  by_cases h3 : p = 3
  · simp [h3]
  by_cases h5 : p = 5
  · simp [h5]
  by_cases h7 : p = 7
  · simp [h7]
  · simp [h2, h3, h5, h7]

theorem isPrime_eq (p : Int) : impl_isPrime.f p = spec_l01Prime.f p := rfl

theorem in_eq (n a b : Int) : spec_l01In.f n a b = some (decide (a ≤ n ∧ n ≤ b)) := by
  unfold spec_l01In.f
  by_cases h : a ≤ n
  · rw [if_pos h]; simp [h]
  · rw [if_neg (by omega)]; simp [h]

/-- the number of places of a region -/
def szN (p : Int) : Nat → Int
  | 0 => 1
  | n + 1 => p * szN p n + 2
theorem size_eq (p r : Int) (hp : p = 2 ∨ p = 3 ∨ p = 5 ∨ p = 7) (h0 : 0 ≤ r) (h1 : r ≤ 4) : ∀ k, 6 ≤ k → spec_l07Size.f k p r = some (szN p r.toNat) := by
  intro k hk
  refine at_rounds (g := fun k => spec_l07Size.f k p r) (fun k => spec_l07Size.mono p r k) hk ?_
  have hr : r = 0 ∨ r = 1 ∨ r = 2 ∨ r = 3 ∨ r = 4 := by omega
  rcases hp with rfl | rfl | rfl | rfl <;> rcases hr with rfl | rfl | rfl | rfl | rfl <;> decide +kernel
theorem szN_bd (p r : Int) (hp : p = 2 ∨ p = 3 ∨ p = 5 ∨ p = 7) (h0 : 0 ≤ r) (h1 : r ≤ 4) : 1 ≤ szN p r.toNat ∧ szN p r.toNat ≤ 5000 := by
  have hr : r = 0 ∨ r = 1 ∨ r = 2 ∨ r = 3 ∨ r = 4 := by omega
  rcases hp with rfl | rfl | rfl | rfl <;> rcases hr with rfl | rfl | rfl | rfl | rfl <;> decide +kernel
theorem szN_succ (p r : Int) (h0 : 1 ≤ r) : szN p r.toNat = p * szN p (r - 1).toNat + 2 := by
  rw [show r.toNat = (r - 1).toNat + 1 from by omega]; rfl
theorem szN_step (p r : Int) (hp : p = 2 ∨ p = 3 ∨ p = 5 ∨ p = 7) (h0 : 1 ≤ r) (h1 : r ≤ 4) {i : Int} (hi : i < szN p (r - 1).toNat) : p * i + p + 2 ≤ szN p r.toNat ∧ szN p (r - 1).toNat ≤ szN p r.toNat := by
  have hb := szN_bd p (r - 1) hp (by omega) (by omega)
  rw [szN_succ p r h0]
  generalize szN p (r - 1).toNat = s at *
  rcases hp with rfl | rfl | rfl | rfl <;> omega

theorem rsize_eq (p r : Int) (hp : p = 2 ∨ p = 3 ∨ p = 5 ∨ p = 7) (h0 : 0 ≤ r) (h1 : r ≤ 4) : ∀ k, 6 ≤ k → impl_regionSize.f k p r = some (szN p r.toNat) := by
  intro k hk
  refine at_rounds (g := fun k => impl_regionSize.f k p r) (fun k => impl_regionSize.mono p r k) hk ?_
  have hr : r = 0 ∨ r = 1 ∨ r = 2 ∨ r = 3 ∨ r = 4 := by omega
  rcases hp with rfl | rfl | rfl | rfl <;> rcases hr with rfl | rfl | rfl | rfl | rfl <;> decide +kernel

/-- all numbers of a list have absolute values of at most so much -/
def allB (m : Int) (l : List Int) : Bool := l.all fun x => decide (-m ≤ x ∧ x ≤ m)
theorem allB_drop (m : Int) (l : List Int) (i : Nat) (h : i < l.length) : allB m (l.drop i) = (decide (-m ≤ rd l i ∧ rd l i ≤ m) && allB m (l.drop (i + 1))) := by
  have h1 := rd_nat l i h
  rw [List.getElem?_eq_getElem h] at h1
  rw [List.drop_eq_getElem_cons h, Option.some.inj h1]; rfl
theorem allB_rd {m : Int} {l : List Int} (h : allB m l = true) {i : Int} (h0 : 0 ≤ i) (h1 : i < l.length) : -m ≤ rd l i ∧ rd l i ≤ m := by
  obtain ⟨n, rfl⟩ := Int.eq_ofNat_of_zero_le h0
  have h2 := rd_nat l n (by omega)
  rw [List.getElem?_eq_getElem (by omega)] at h2
  unfold allB at h
  rw [List.all_eq_true] at h
  have := h (l[n]'(by omega)) (List.getElem_mem _)
  rw [Option.some.inj h2] at this
  simpa using this

/-- the code of a prime, a radius, and a list -/
def codeL (p r : Int) (l : List Int) (less least : Int) : Int :=
  if ¬ (p = 2 ∨ p = 3 ∨ p = 5 ∨ p = 7) then 1 else if r < least ∨ 4 < r then 2 else if (l.length : Int) + less = szN p r.toNat ∧ allB 1000000 l = true then (if szN p r.toNat > 500 then 3 else 0) else 2
theorem codeL_cases (p r : Int) (l : List Int) (less least : Int) : (codeL p r l less least = 0 ∧ (p = 2 ∨ p = 3 ∨ p = 5 ∨ p = 7) ∧ least ≤ r ∧ r ≤ 4 ∧ (l.length : Int) + less = szN p r.toNat ∧ szN p r.toNat ≤ 500 ∧ allB 1000000 l = true) ∨ codeL p r l less least = 1 ∨ codeL p r l less least = 2 ∨ codeL p r l less least = 3 := by
  unfold codeL
  by_cases h1 : (p = 2 ∨ p = 3 ∨ p = 5 ∨ p = 7)
  · rw [if_neg (not_not_intro h1)]
    by_cases h2 : r < least ∨ 4 < r
    · rw [if_pos h2]; simp
    · rw [if_neg h2]
      by_cases h3 : (l.length : Int) + less = szN p r.toNat ∧ allB 1000000 l = true
      · rw [if_pos h3]
        by_cases h4 : szN p r.toNat > 500
        · rw [if_pos h4]; simp
        · rw [if_neg h4]
          refine Or.inl ⟨rfl, h1, by omega, by omega, h3.1, by omega, h3.2⟩
      · rw [if_neg h3]; simp
  · rw [if_pos h1]; simp

/-- the first child of a place, how many there are, and all of them -/
def fc (p i : Int) : Int := if i = 0 then 1 else p + 2 + (i - 1) * p
def cn (p i : Int) : Int := if i = 0 then p + 1 else p
def kids (p i : Int) (n : Nat) : List Int := (List.range n).map fun j : Nat => fc p i + (j : Int)
theorem fc_bd (p i : Int) (hp : p = 2 ∨ p = 3 ∨ p = 5 ∨ p = 7) (h0 : 0 ≤ i) (h1 : i ≤ 5000) : i < fc p i ∧ 1 ≤ fc p i ∧ fc p i ≤ 40000 ∧ 2 ≤ cn p i ∧ cn p i ≤ 8 ∧ fc p i + cn p i = p * i + p + 2 := by
  unfold fc cn
  rcases hp with rfl | rfl | rfl | rfl <;> split <;> omega
theorem kids_succ (p i : Int) (n : Nat) : kids p i (n + 1) = kids p i n ++ [fc p i + (n : Int)] := by
  unfold kids; rw [List.range_succ, List.map_append]; rfl
theorem kids_length (p i : Int) (n : Nat) : (kids p i n).length = n := by simp [kids]
theorem kids_rd (p i : Int) (n j : Nat) (h : j < n) : rd (kids p i n) (j : Int) = fc p i + (j : Int) := by
  have := rd_nat (kids p i n) j (by rw [kids_length]; exact h)
  simp only [kids, List.getElem?_map] at this
  rw [List.getElem?_range h] at this
  exact (Option.some.inj this).symm

/-- a sum of so many values from a place on -/
def sumC (f : List Int) (a : Int) : Nat → Int → Int
  | 0, s => s
  | n + 1, s => sumC f (a + 1) n (wrap64 (s + rd f a))
theorem place_bd (p i : Int) (hp : p = 2 ∨ p = 3 ∨ p = 5 ∨ p = 7) (h0 : 1 ≤ i) (h1 : i ≤ 5000) : 0 ≤ (if i ≤ p + 1 then 0 else (i - p - 2) / p + 1) ∧ (if i ≤ p + 1 then 0 else (i - p - 2) / p + 1) < i := by
  rcases hp with rfl | rfl | rfl | rfl <;> split <;> omega


theorem isReach_eq (r : Int) : impl_isReach.f r = some (decide (0 ≤ r ∧ r ≤ 4)) := by
  unfold impl_isReach.f
  by_cases h : 0 ≤ r
  · rw [if_pos h]; simp [h]
  · rw [if_neg (by omega)]; simp [h]
theorem FnExactRegionSize : laws_FnExactRegionSize.Pure := by
  intro p r hp hr
  refine ⟨8, ?_⟩
  unfold laws_FnExactRegionSize.f spec_RegionSize.f impl_RegionSize.f spec_l07Code.f
  rw [isPrime_eq]
  rcases prime_cases p with ⟨h, hp⟩ | ⟨h, _⟩
  · rw [h, in_eq, isReach_eq]
    simp only [Option.bind_some, if_true]
    by_cases hr : 0 ≤ r ∧ r ≤ 4
    · rw [decide_eq_true hr, size_eq p r hp hr.1 hr.2 _ (by omega), rsize_eq p r hp hr.1 hr.2 _ (by omega)]
      simp only [Option.bind_some, if_true]
      by_cases h5 : szN p r.toNat > 500
      · simp [h5]
      · simp [h5]
    · rw [decide_eq_false hr]; simp
  · rw [h]; simp

end Go.Proofs.Ytakfeaomdkapaaa.Pure
