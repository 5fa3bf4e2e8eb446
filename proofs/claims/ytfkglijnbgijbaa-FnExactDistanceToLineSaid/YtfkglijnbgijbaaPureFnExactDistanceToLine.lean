/- The program's DistanceToLine and the reference's return the same, for all arguments: the printed functions' law answers true. -/
import Derived.Test.YtfkglijnbgijbaaPAllx23
import Derived.Test.YtfkglijnbgijbaaMath
set_option linter.unusedVariables false
set_option linter.unusedSimpArgs false
namespace Go.Proofs.Ytfkglijnbgijbaa.Pure
open Go.RowKit Go.Proofs.Ytfkglijnbgijbaa.PAll Go.Proofs.YtfkglijnbgijbaaW.PrintWords Go.Proofs.YtfkglijnbgijbaaW.PrintLast PM

theorem w64 {n : Int} (h1 : -9223372036854775808 ≤ n) (h2 : n ≤ 9223372036854775807) : wrap64 n = n := by unfold wrap64; omega
theorem wfb {n : Int} (h : (Lit.int .i64 n).wf = true) : -9223372036854775808 ≤ n ∧ n ≤ 9223372036854775807 := by
  simp [Lit.wf, IntKind.min, IntKind.max, IntKind.bits, IntKind.signed] at h; omega
theorem rd_nat (l : List Int) (i : Nat) (h : i < l.length) : l[i]? = some (rd l (i : Int)) := by
  unfold rd; simp [List.getD_eq_getElem?_getD, h]

theorem prime_cases (p : Int) : (spec_l01Prime.f p = some true ∧ (p = 2 ∨ p = 3 ∨ p = 5 ∨ p = 7)) ∨ (spec_l01Prime.f p = some false ∧ ¬ (p = 2 ∨ p = 3 ∨ p = 5 ∨ p = 7)) := by
  unfold spec_l01Prime.f
  by_cases h2 : p = 2
  · simp [h2]
  by_cases h3 : p = 3
  · simp [h3]
  by_cases h5 : p = 5
  · simp [h5]
  by_cases h7 : p = 7
  · simp [h7]
  · simp [h2, h3, h5, h7]

theorem isPrime_eq (p : Int) : impl_isPrime.f p = spec_l01Prime.f p := rfl

theorem in_eq (n a b : Int) : spec_l01In.f n a b = some (decide (a ≤ n ∧ n ≤ b)) := by
  unfold spec_l01In.f
  by_cases h : a ≤ n
  · rw [if_pos h]; simp [h]
  · rw [if_neg (by omega)]; simp [h]

/-- all numbers of a list have absolute values of at most so much -/
def allB (m : Int) (l : List Int) : Bool := l.all fun x => decide (-m ≤ x ∧ x ≤ m)
theorem allB_drop (m : Int) (l : List Int) (i : Nat) (h : i < l.length) : allB m (l.drop i) = (decide (-m ≤ rd l i ∧ rd l i ≤ m) && allB m (l.drop (i + 1))) := by
  have h1 := rd_nat l i h
  rw [List.getElem?_eq_getElem h] at h1
  rw [List.drop_eq_getElem_cons h, Option.some.inj h1]; rfl
theorem allB_rd {m : Int} {l : List Int} (h : allB m l = true) {i : Int} (h0 : 0 ≤ i) (h1 : i < l.length) : -m ≤ rd l i ∧ rd l i ≤ m := by
  obtain ⟨n, rfl⟩ := Int.eq_ofNat_of_zero_le h0
  have h2 := rd_nat l n (by omega)
  rw [List.getElem?_eq_getElem (by omega)] at h2
  unfold allB at h
  rw [List.all_eq_true] at h
  have := h (l[n]'(by omega)) (List.getElem_mem _)
  rw [Option.some.inj h2] at this
  simpa using this

theorem within_eq (m : Int) (hm : 0 ≤ m) (hm2 : m ≤ 1000000000000000000) (l : List Int) (hl : l.length ≤ 1048576) : ∃ K, ∀ k, K ≤ k → impl_within.f k m l = some (allB m l) := by
  have go : ∀ (d k i : Nat), i + d = l.length → d < k → impl_within.l0 k m l l.length i = some (allB m (l.drop i)) := by
    intro d
    induction d with
    | zero =>
      intro k i h2 h3
      obtain ⟨k, rfl⟩ : ∃ m, k = m + 1 := ⟨k - 1, by omega⟩
      simp only [impl_within.l0]
      rw [if_neg (by omega), List.drop_eq_nil_of_le (by omega)]; rfl
    | succ d ih =>
      intro k i h2 h3
      obtain ⟨k, rfl⟩ : ∃ m, k = m + 1 := ⟨k - 1, by omega⟩
      simp only [impl_within.l0]
      rw [if_pos (by omega), if_pos (by omega), if_pos (by omega), allB_drop _ _ _ (by omega), w64 (n := -m) (by omega) (by omega), w64 (by omega) (by omega)]
      have := ih k (i + 1) (by omega) (by omega)
      rw [show ((i : Int) + 1) = ((i + 1 : Nat) : Int) from by omega, this]
      by_cases h : rd l (i : Int) < -m
      · rw [if_pos h, decide_eq_false (by omega)]; rfl
      · rw [if_neg h]
        by_cases h' : rd l (i : Int) > m
        · rw [if_pos h', decide_eq_false (by omega)]; rfl
        · rw [if_neg h', decide_eq_true (by omega)]; rfl
  exact ⟨l.length + 1, fun k hk => by
    have := go l.length k 0 (by omega) (by omega)
    simpa [impl_within.f] using this⟩

/-- the first child of a place, how many there are, and all of them -/
def fc (p i : Int) : Int := if i = 0 then 1 else p + 2 + (i - 1) * p
def cn (p i : Int) : Int := if i = 0 then p + 1 else p
def kids (p i : Int) (n : Nat) : List Int := (List.range n).map fun j : Nat => fc p i + (j : Int)
theorem fc_bd (p i : Int) (hp : p = 2 ∨ p = 3 ∨ p = 5 ∨ p = 7) (h0 : 0 ≤ i) (h1 : i ≤ 5000) : i < fc p i ∧ 1 ≤ fc p i ∧ fc p i ≤ 40000 ∧ 2 ≤ cn p i ∧ cn p i ≤ 8 ∧ fc p i + cn p i = p * i + p + 2 := by
  unfold fc cn
  rcases hp with rfl | rfl | rfl | rfl <;> split <;> omega
theorem kids_succ (p i : Int) (n : Nat) : kids p i (n + 1) = kids p i n ++ [fc p i + (n : Int)] := by
  unfold kids; rw [List.range_succ, List.map_append]; rfl
theorem kids_length (p i : Int) (n : Nat) : (kids p i n).length = n := by simp [kids]
theorem kids_rd (p i : Int) (n j : Nat) (h : j < n) : rd (kids p i n) (j : Int) = fc p i + (j : Int) := by
  have := rd_nat (kids p i n) j (by rw [kids_length]; exact h)
  simp only [kids, List.getElem?_map] at this
  rw [List.getElem?_range h] at this
  exact (Option.some.inj this).symm

/-- a sum of so many values from a place on -/
def sumC (f : List Int) (a : Int) : Nat → Int → Int
  | 0, s => s
  | n + 1, s => sumC f (a + 1) n (wrap64 (s + rd f a))
theorem place_bd (p i : Int) (hp : p = 2 ∨ p = 3 ∨ p = 5 ∨ p = 7) (h0 : 1 ≤ i) (h1 : i ≤ 5000) : 0 ≤ (if i ≤ p + 1 then 0 else (i - p - 2) / p + 1) ∧ (if i ≤ p + 1 then 0 else (i - p - 2) / p + 1) < i := by
  rcases hp with rfl | rfl | rfl | rfl <;> split <;> omega

theorem all_drop {α : Type} (P : α → Bool) (l : List α) (i : Nat) (h : i < l.length) : (l.drop i).all P = (P (l[i]'h) && (l.drop (i + 1)).all P) := by
  rw [List.drop_eq_getElem_cons h]; rfl
theorem prDef (p : Int) : PM.Pr p = (p = 2 ∨ p = 3 ∨ p = 5 ∨ p = 7) := rfl
theorem tmod_zero_iff (n p : Int) : n.tmod p = 0 ↔ p ∣ n := Int.dvd_iff_tmod_eq_zero.symm

theorem val_eq (p n : Int) (hp : Pr p) (hn : n ≠ 0) (hb : n.natAbs ≤ 9223372036854775807) : ∀ k, 70 ≤ k → spec_l01Val.f k p n = some (vl p n : Int) := by
  have hp2 := hp.pos
  have go : ∀ (v k : Nat) (n s : Int), n ≠ 0 → n.natAbs ≤ 9223372036854775807 → vl p n = v → v < k → 0 ≤ s → s + v ≤ 1000000 → spec_l01Val.l0 k p n s = some (s + v) := by
    intro v
    induction v with
    | zero =>
      intro k n s hn hb hv hk h0 h1
      obtain ⟨k, rfl⟩ : ∃ m, k = m + 1 := ⟨k - 1, by omega⟩
      simp only [spec_l01Val.l0]
      rw [if_neg (by omega), if_neg (by rw [tmod_zero_iff]; exact (vl_zero_iff hp hn).1 hv)]
      simp
    | succ v ih =>
      intro k n s hn hb hv hk h0 h1
      obtain ⟨k, rfl⟩ : ∃ m, k = m + 1 := ⟨k - 1, by omega⟩
      have hd : p ∣ n := Decidable.byContradiction fun h => by have := (vl_zero_iff hp hn).2 h; omega
      obtain ⟨g1, g2, g3⟩ := vl_step hp hn hd
      simp only [spec_l01Val.l0]
      rw [if_neg (by omega), if_pos (by rw [tmod_zero_iff]; exact hd), w64 (n := n.tdiv p) (by omega) (by omega), w64 (n := s + 1) (by omega) (by omega), ih k _ _ g1 (by omega) (by omega) (by omega) (by omega) (by omega)]
      congr 1; omega
  intro k hk
  have hle := vl_le63 hp hn (by omega)
  unfold spec_l01Val.f
  rw [go (vl p n) k n 0 hn hb rfl (by omega) (by omega) (by omega)]
  congr 1; omega

theorem valuation_eq (p n : Int) (hp : Pr p) (hb : n.natAbs ≤ 9223372036854775807) : ∀ k, 70 ≤ k → impl_valuation.f k p n = some (vz p n) := by
  have hp2 := hp.pos
  have go : ∀ (v k : Nat) (n s : Int), n ≠ 0 → n.natAbs ≤ 9223372036854775807 → vl p n = v → v < k → 0 ≤ s → s + v ≤ 1000000 → impl_valuation.l0 k p n s = some (s + v) := by
    intro v
    induction v with
    | zero =>
      intro k n s hn hb hv hk h0 h1
      obtain ⟨k, rfl⟩ : ∃ m, k = m + 1 := ⟨k - 1, by omega⟩
      simp only [impl_valuation.l0]
      rw [if_neg (by omega), if_neg (by rw [tmod_zero_iff]; exact (vl_zero_iff hp hn).1 hv)]
      simp
    | succ v ih =>
      intro k n s hn hb hv hk h0 h1
      obtain ⟨k, rfl⟩ : ∃ m, k = m + 1 := ⟨k - 1, by omega⟩
      have hd : p ∣ n := Decidable.byContradiction fun h => by have := (vl_zero_iff hp hn).2 h; omega
      obtain ⟨g1, g2, g3⟩ := vl_step hp hn hd
      simp only [impl_valuation.l0]
      rw [if_neg (by omega), if_pos (by rw [tmod_zero_iff]; exact hd), w64 (n := n.tdiv p) (by omega) (by omega), w64 (n := s + 1) (by omega) (by omega), ih k _ _ g1 (by omega) (by omega) (by omega) (by omega) (by omega)]
      congr 1; omega
  intro k hk
  unfold impl_valuation.f vz
  by_cases h0 : n = 0
  · rw [if_pos h0, if_pos h0]
  · have hle := vl_le63 hp h0 (by omega)
    rw [if_neg h0, if_neg h0, go (vl p n) k n 0 h0 hb rfl (by omega) (by omega) (by omega)]
    congr 1; omega

theorem pw_bd (p k : Int) (hp : Pr p) (h : k ≤ 20) : 1 ≤ pw p k ∧ pw p k ≤ 79792266297612001 := by
  have h1 := pw_pos2 hp k
  have h2 := pw_le hp h
  have h3 : pw p 20 ≤ 79792266297612001 := by
    rcases hp with rfl | rfl | rfl | rfl <;> decide +kernel
  omega
theorem pw_bd12 (p k : Int) (hp : Pr p) (h : k ≤ 12) : 1 ≤ pw p k ∧ pw p k ≤ 13841287201 := by
  have h1 := pw_pos2 hp k
  have h2 := pw_le hp h
  have h3 : pw p 12 ≤ 13841287201 := by
    rcases hp with rfl | rfl | rfl | rfl <;> decide +kernel
  omega
theorem pw_bd6 (p k : Int) (hp : Pr p) (h : k ≤ 6) : 1 ≤ pw p k ∧ pw p k ≤ 117649 := by
  have h1 := pw_pos2 hp k
  have h2 := pw_le hp h
  have h3 : pw p 6 ≤ 117649 := by
    rcases hp with rfl | rfl | rfl | rfl <;> decide +kernel
  omega
theorem pw_succ (p k : Int) (h : 0 ≤ k) : pw p (k + 1) = pw p k * p := by
  rw [pw_add h (by omega), pw_one]

theorem l01Power_eq (p n : Int) (hp : Pr p) (h : n ≤ 20) (h0 : -9223372036854775808 ≤ n) : ∀ k, 30 ≤ k → spec_l01Power.f k p n = some (pw p n) := by
  have hp2 := hp.pos
  have go : ∀ (d k : Nat) (n out j : Int), n = d → 0 ≤ j → j + d ≤ 20 → d < k → out = pw p j → spec_l01Power.l0 k p n out = some (pw p (j + d)) := by
    intro d
    induction d with
    | zero =>
      intro k n out j hn hj hs hk ho
      obtain ⟨k, rfl⟩ : ∃ m, k = m + 1 := ⟨k - 1, by omega⟩
      simp only [spec_l01Power.l0]
      rw [if_neg (by omega), ho]; simp
    | succ d ih =>
      intro k n out j hn hj hs hk ho
      obtain ⟨k, rfl⟩ : ∃ m, k = m + 1 := ⟨k - 1, by omega⟩
      simp only [spec_l01Power.l0]
      have hb := pw_bd p (j + 1) hp (by omega)
      have hs1 := pw_succ p j hj
      rw [if_pos (by omega), w64 (n := n - 1) (by omega) (by omega), ho, ← hs1, w64 (by omega) (by omega), ih k (n - 1) _ (j + 1) (by omega) (by omega) (by omega) (by omega) rfl]
      congr 2; omega
  intro k hk
  unfold spec_l01Power.f
  by_cases h1 : n ≤ 0
  · obtain ⟨k, rfl⟩ : ∃ m, k = m + 1 := ⟨k - 1, by omega⟩
    simp only [spec_l01Power.l0]
    rw [if_neg (by omega)]
    simp [pw, show n.toNat = 0 by omega]
  · rw [go n.toNat k n 1 0 (by omega) (by omega) (by omega) (by omega) (by simp [pw])]
    congr 2; omega

theorem power_eq (p n : Int) (hp : Pr p) (h : n ≤ 20) : ∀ k, 30 ≤ k → impl_power.f k p n = some (pw p n) := by
  have hp2 := hp.pos
  have go : ∀ (d k : Nat) (n out j : Int), n = j + d → 0 ≤ j → n ≤ 20 → d < k → out = pw p j → impl_power.l0 k p out n j = some (pw p n) := by
    intro d
    induction d with
    | zero =>
      intro k n out j hn hj hs hk ho
      obtain ⟨k, rfl⟩ : ∃ m, k = m + 1 := ⟨k - 1, by omega⟩
      simp only [impl_power.l0]
      rw [if_neg (by omega), ho]
      congr 2; omega
    | succ d ih =>
      intro k n out j hn hj hs hk ho
      obtain ⟨k, rfl⟩ : ∃ m, k = m + 1 := ⟨k - 1, by omega⟩
      simp only [impl_power.l0]
      have hb := pw_bd p (j + 1) hp (by omega)
      have hs1 := pw_succ p j hj
      rw [if_pos (by omega), w64 (n := j + 1) (by omega) (by omega), ho, ← hs1, w64 (by omega) (by omega), ih k n _ (j + 1) (by omega) (by omega) (by omega) (by omega) rfl]
  intro k hk
  unfold impl_power.f
  by_cases h1 : n ≤ 0
  · obtain ⟨k, rfl⟩ : ∃ m, k = m + 1 := ⟨k - 1, by omega⟩
    simp only [impl_power.l0]
    rw [if_neg (by omega)]
    simp [pw, show n.toNat = 0 by omega]
  · rw [go n.toNat k n 1 0 (by omega) (by omega) (by omega) (by omega) (by simp [pw])]

theorem mx_neg (a : Int) (h : a.natAbs ≤ 9223372036854775807) : mx a (wrap64 (-a)) = (a.natAbs : Int) := by
  rw [w64 (by omega) (by omega)]; unfold mx; split <;> omega
theorem gcd_tmod (a b : Int) : Int.gcd b (a.tmod b) = Int.gcd a b := by
  have h := Int.gcd_add_mul_left_right b (a.tmod b) (a.tdiv b)
  rw [Int.tmod_add_mul_tdiv] at h
  rw [Int.gcd_comm a b]; exact h.symm

theorem l01Gcd_eq (a b : Int) (ha : a.natAbs ≤ 9223372036854775807) (hb : b.natAbs ≤ 9223372036854775807) : ∃ K, ∀ k, K ≤ k → spec_l01Gcd.f k a b = some (Int.gcd a b : Int) := by
  have go : ∀ (d k : Nat) (a b : Int), a.natAbs ≤ 9223372036854775807 → b.natAbs ≤ 9223372036854775807 → b.natAbs ≤ d → d < k → spec_l01Gcd.l0 k a b = some (Int.gcd a b : Int) := by
    intro d
    induction d with
    | zero =>
      intro k a b ha hb0 hb hk
      obtain ⟨k, rfl⟩ : ∃ m, k = m + 1 := ⟨k - 1, by omega⟩
      obtain rfl : b = 0 := by omega
      simp only [spec_l01Gcd.l0]
      rw [if_pos trivial, mx_neg a ha, Int.gcd_zero_right]
    | succ d ih =>
      intro k a b ha hb0 hb hk
      obtain ⟨k, rfl⟩ : ∃ m, k = m + 1 := ⟨k - 1, by omega⟩
      simp only [spec_l01Gcd.l0]
      by_cases h : b = 0
      · rw [if_pos h, mx_neg a ha, h, Int.gcd_zero_right]
      · rw [if_neg h, ih k b (a.tmod b) hb0 (by
          have : (a.tmod b).natAbs < b.natAbs := by rw [Int.natAbs_tmod]; exact Nat.mod_lt _ (by omega)
          omega) (by
          have : (a.tmod b).natAbs < b.natAbs := by rw [Int.natAbs_tmod]; exact Nat.mod_lt _ (by omega)
          omega) (by omega), gcd_tmod]
  exact ⟨b.natAbs + 1, fun k hk => by unfold spec_l01Gcd.f; exact go b.natAbs k a b ha hb (Nat.le_refl _) (by omega)⟩

theorem gcd_eq (a b : Int) (ha : a.natAbs ≤ 9223372036854775807) (hb : b.natAbs ≤ 9223372036854775807) : ∃ K, ∀ k, K ≤ k → impl_gcd.f k a b = some (Int.gcd a b : Int) := by
  have go : ∀ (d k : Nat) (a b : Int), a.natAbs ≤ 9223372036854775807 → b.natAbs ≤ 9223372036854775807 → b.natAbs ≤ d → d < k → impl_gcd.l0 k a b = some (Int.gcd a b : Int) := by
    intro d
    induction d with
    | zero =>
      intro k a b ha hb0 hb hk
      obtain ⟨k, rfl⟩ : ∃ m, k = m + 1 := ⟨k - 1, by omega⟩
      obtain rfl : b = 0 := by omega
      simp only [impl_gcd.l0]
      rw [if_pos trivial, mx_neg a ha, Int.gcd_zero_right]
    | succ d ih =>
      intro k a b ha hb0 hb hk
      obtain ⟨k, rfl⟩ : ∃ m, k = m + 1 := ⟨k - 1, by omega⟩
      simp only [impl_gcd.l0]
      by_cases h : b = 0
      · rw [if_pos h, mx_neg a ha, h, Int.gcd_zero_right]
      · rw [if_neg h, ih k b (a.tmod b) hb0 (by
          have : (a.tmod b).natAbs < b.natAbs := by rw [Int.natAbs_tmod]; exact Nat.mod_lt _ (by omega)
          omega) (by
          have : (a.tmod b).natAbs < b.natAbs := by rw [Int.natAbs_tmod]; exact Nat.mod_lt _ (by omega)
          omega) (by omega), gcd_tmod]
  exact ⟨b.natAbs + 1, fun k hk => by unfold impl_gcd.f; exact go b.natAbs k a b ha hb (Nat.le_refl _) (by omega)⟩

theorem l01End_eq (n d : Int) : ∃ K, ∀ k, K ≤ k → spec_l01End.f k n d = some (decide (isE n d)) := by
  by_cases h0 : d = 0
  · refine ⟨0, fun k _ => ?_⟩
    unfold spec_l01End.f
    rw [if_pos h0]
    congr 1
    by_cases h : n = 1
    · simp [h, h0, isE]
    · simp [h, h0, isE]
  · by_cases h1 : 1 ≤ d ∧ d ≤ 1000000
    · by_cases h2 : -1000000 ≤ n ∧ n ≤ 1000000
      · obtain ⟨K, hK⟩ := l01Gcd_eq n d (by omega) (by omega)
        refine ⟨K, fun k hk => ?_⟩
        unfold spec_l01End.f
        rw [if_neg h0, in_eq, in_eq, hK k hk, decide_eq_true h1, decide_eq_true h2]
        simp only [Option.bind_some, if_true]
        congr 1
        rw [Bool.eq_iff_iff]
        simp [isE, h0, h1, h2]
        omega
      · refine ⟨0, fun k _ => ?_⟩
        unfold spec_l01End.f
        rw [if_neg h0, in_eq, in_eq, decide_eq_true h1, decide_eq_false h2]
        simp only [Option.bind_some, if_true]
        rw [if_neg (by simp), decide_eq_false]
        unfold isE; omega
    · refine ⟨0, fun k _ => ?_⟩
      unfold spec_l01End.f
      rw [if_neg h0, in_eq, decide_eq_false h1]
      simp only [Option.bind_some]
      rw [if_neg (by simp), decide_eq_false]
      unfold isE; omega

theorem IsEnd_eq (n d : Int) : ∃ K, ∀ k, K ≤ k → impl_IsEnd.f k n d = some (decide (isE n d)) := by
  by_cases h0 : d = 0
  · refine ⟨0, fun k _ => ?_⟩
    unfold impl_IsEnd.f
    rw [if_pos h0]
    congr 1
    by_cases h : n = 1
    · simp [h, h0, isE]
    · simp [h, h0, isE]
  · obtain ⟨K1, hw⟩ := within_eq 1000000 (by omega) (by omega) [n, d] (by simp)
    have ew : allB 1000000 [n, d] = decide ((-1000000 ≤ n ∧ n ≤ 1000000) ∧ -1000000 ≤ d ∧ d ≤ 1000000) := by simp [allB]
    rw [ew] at hw
    by_cases h1 : (-1000000 ≤ n ∧ n ≤ 1000000) ∧ -1000000 ≤ d ∧ d ≤ 1000000
    · obtain ⟨K2, hK⟩ := gcd_eq n d (by omega) (by omega)
      refine ⟨K1 + K2, fun k hk => ?_⟩
      unfold impl_IsEnd.f
      rw [if_neg h0, hw k (by omega), decide_eq_true h1, hK k (by omega)]
      simp only [Option.bind_some, if_true]
      by_cases h2 : d > 0
      · rw [if_pos h2]
        congr 1
        rw [Bool.eq_iff_iff]
        simp [isE, h0, h1]
        omega
      · rw [if_neg h2, decide_eq_false]
        unfold isE; omega
    · refine ⟨K1, fun k hk => ?_⟩
      unfold impl_IsEnd.f
      rw [if_neg h0, hw k (by omega), decide_eq_false h1]
      simp only [Option.bind_some]
      rw [if_neg (by simp), decide_eq_false]
      unfold isE; omega

def eOk (x : S24) : Bool := decide (isE x.f0 x.f1)
theorem rdE (l : List S24) (i : Nat) (h : i < l.length) : rd_T24 l (i : Int) = l[i]'h := by
  unfold rd_T24; simp [List.getD_eq_getElem?_getD, h]
/-- an end is none of those ahead of it -/
def difAt (l : List S24) (i : Nat) : Bool := (l.take i).all fun x => !(x.f0 == (rd_T24 l i).f0 && x.f1 == (rd_T24 l i).f1)
def difFrom (l : List S24) : Nat → Nat → Bool
  | 0, _ => true
  | d + 1, i => difAt l i && difFrom l d (i + 1)
def dif (l : List S24) : Bool := difFrom l l.length 0

theorem areEnds_eq (l : List S24) (hl : l.length ≤ 1000) : ∃ K, ∀ k, K ≤ k → impl_areEnds.f k l = some (l.all eOk) := by
  have go : ∀ (d i : Nat), i + d = l.length → ∃ K, ∀ k, K ≤ k → impl_areEnds.l0 k l l.length i = some ((l.drop i).all eOk) := by
    intro d
    induction d with
    | zero =>
      intro i hi
      refine ⟨1, fun k hk => ?_⟩
      obtain ⟨k, rfl⟩ : ∃ m, k = m + 1 := ⟨k - 1, by omega⟩
      simp only [impl_areEnds.l0]
      rw [if_neg (by omega), List.drop_eq_nil_of_le (by omega)]; rfl
    | succ d ih =>
      intro i hi
      obtain ⟨K1, h1⟩ := ih (i + 1) (by omega)
      obtain ⟨K2, h2⟩ := IsEnd_eq (l[i]'(by omega)).f0 (l[i]'(by omega)).f1
      refine ⟨K1 + K2 + 1, fun k hk => ?_⟩
      obtain ⟨k, rfl⟩ : ∃ m, k = m + 1 := ⟨k - 1, by omega⟩
      simp only [impl_areEnds.l0]
      rw [if_pos (by omega), if_pos (by omega), if_pos (by omega), rdE l i (by omega), h2 k (by omega), all_drop eOk l i (by omega), w64 (by omega) (by omega), show ((i : Int) + 1) = ((i + 1 : Nat) : Int) from by omega, h1 k (by omega)]
      simp only [Option.bind_some]
      show _ = some (decide (isE _ _) && _)
      by_cases h : isE (l[i]'(by omega)).f0 (l[i]'(by omega)).f1
      · rw [decide_eq_true h]; simp
      · rw [decide_eq_false h]; simp
  obtain ⟨K, h⟩ := go l.length 0 (by omega)
  exact ⟨K, fun k hk => by have := h k hk; simpa [impl_areEnds.f] using this⟩

theorem l05Different_eq (l : List S24) (hl : l.length ≤ 1000) : ∃ K, ∀ k, K ≤ k → spec_l05Different.f k l = some (dif l) := by
  have l1 : ∀ (d k i j : Nat), j + d = i → i < l.length → spec_l05Different.l1 (k + d + 1) l i j = if ((l.take i).drop j).all (fun x => !(x.f0 == (rd_T24 l i).f0 && x.f1 == (rd_T24 l i).f1)) = true then spec_l05Different.l0 k l ((i + 1 : Nat) : Int) else some false := by
    intro d
    induction d with
    | zero =>
      intro k i j hj hi
      simp only [spec_l05Different.l1]
      rw [if_neg (by omega), List.drop_eq_nil_of_le (by simp; omega), w64 (by omega) (by omega)]; rfl
    | succ d ih =>
      intro k i j hj hi
      have hlt : j < (l.take i).length := by simp; omega
      rw [show k + (d + 1) + 1 = (k + d + 1) + 1 from rfl, spec_l05Different.l1, all_drop _ _ j hlt]
      rw [if_pos (by omega), if_pos (by omega), if_pos (by omega), if_pos (by omega), if_pos (by omega), w64 (by omega) (by omega)]
      have := ih k i (j + 1) (by omega) hi
      rw [show ((j : Int) + 1) = ((j + 1 : Nat) : Int) from by omega, this, rdE l j (by omega)]
      have e : (l.take i)[j]'hlt = l[j]'(by omega) := List.getElem_take
      rw [e]
      by_cases h : ((rd_T24 l i).f0 == (l[j]'(by omega)).f0 && ((rd_T24 l i).f1 == (l[j]'(by omega)).f1)) = true
      · rw [if_pos h]
        have h' : ((l[j]'(by omega)).f0 == (rd_T24 l i).f0 && ((l[j]'(by omega)).f1 == (rd_T24 l i).f1)) = true := by
          simp only [Bool.and_eq_true, beq_iff_eq] at h ⊢; exact ⟨h.1.symm, h.2.symm⟩
        rw [h']; simp
      · rw [if_neg h]
        have h' : ((l[j]'(by omega)).f0 == (rd_T24 l i).f0 && ((l[j]'(by omega)).f1 == (rd_T24 l i).f1)) = false := by
          rw [Bool.eq_false_iff]; intro h2; apply h
          simp only [Bool.and_eq_true, beq_iff_eq] at h2 ⊢; exact ⟨h2.1.symm, h2.2.symm⟩
        rw [h']; simp
  have l0 : ∀ (d i k : Nat), i + d = l.length → (l.length + 3) * d + 2 ≤ k → spec_l05Different.l0 k l i = some (difFrom l d i) := by
    intro d
    induction d with
    | zero =>
      intro i k hi hk
      obtain ⟨k, rfl⟩ : ∃ m, k = m + 1 := ⟨k - 1, by omega⟩
      simp only [spec_l05Different.l0]
      rw [if_neg (by omega)]; rfl
    | succ d ih =>
      intro i k hi hk
      rw [Nat.mul_succ] at hk
      obtain ⟨k, rfl⟩ : ∃ m, k = (m + i + 1) + 1 := ⟨k - i - 2, by omega⟩
      simp only [spec_l05Different.l0]
      rw [if_pos (by omega)]
      have := l1 i k i 0 (by omega) (by omega)
      rw [show ((0 : Nat) : Int) = 0 from rfl, List.drop_zero] at this
      rw [this]
      simp only [difFrom]
      unfold difAt
      split
      · rename_i h; rw [h, ih (i + 1) k (by omega) (by omega)]; rfl
      · rename_i h; rw [Bool.eq_false_iff.mpr h]; rfl
  exact ⟨(l.length + 3) * l.length + 2, fun k hk => by
    have := l0 l.length 0 k (by omega) hk
    simpa [spec_l05Different.f, dif] using this⟩

theorem l05Code_l0 (l : List S24) (hl : l.length ≤ 1000) : ∃ K, ∀ k, K ≤ k → spec_l05Code.l0 k l 0 = some (if l.all eOk = true then (if dif l = true then 0 else 5) else 1) := by
  obtain ⟨K0, h0⟩ := l05Different_eq l hl
  have go : ∀ (d i : Nat), i + d = l.length → ∃ K, ∀ k, K ≤ k → spec_l05Code.l0 k l i = some (if (l.drop i).all eOk = true then (if dif l = true then 0 else 5) else 1) := by
    intro d
    induction d with
    | zero =>
      intro i hi
      refine ⟨K0 + 1, fun k hk => ?_⟩
      obtain ⟨k, rfl⟩ : ∃ m, k = m + 1 := ⟨k - 1, by omega⟩
      simp only [spec_l05Code.l0]
      rw [if_neg (by omega), List.drop_eq_nil_of_le (by omega), h0 k (by omega)]
      simp only [Option.bind_some, List.all_nil, if_true]
      split <;> rfl
    | succ d ih =>
      intro i hi
      obtain ⟨K1, h1⟩ := ih (i + 1) (by omega)
      obtain ⟨K2, h2⟩ := l01End_eq (l[i]'(by omega)).f0 (l[i]'(by omega)).f1
      refine ⟨K1 + K2 + 1, fun k hk => ?_⟩
      obtain ⟨k, rfl⟩ : ∃ m, k = m + 1 := ⟨k - 1, by omega⟩
      simp only [spec_l05Code.l0]
      rw [if_pos (by omega), if_pos (by omega), rdE l i (by omega), h2 k (by omega), all_drop eOk l i (by omega), w64 (by omega) (by omega), show ((i : Int) + 1) = ((i + 1 : Nat) : Int) from by omega, h1 k (by omega)]
      simp only [Option.bind_some]
      show _ = some (if (decide (isE _ _) && _) = true then _ else _)
      by_cases h : isE (l[i]'(by omega)).f0 (l[i]'(by omega)).f1
      · rw [decide_eq_true h]; simp
      · rw [decide_eq_false h]; simp
  obtain ⟨K, h⟩ := go l.length 0 (by omega)
  exact ⟨K, fun k hk => by have := h k hk; simpa using this⟩

theorem isE_bd {n d : Int} (h : isE n d) : -1000000 ≤ n ∧ n ≤ 1000000 ∧ 0 ≤ d ∧ d ≤ 1000000 := by unfold isE at h; omega
theorem mul_bd {a b : Int} (h1 : -1000000 ≤ a) (h2 : a ≤ 1000000) (h3 : -1000000 ≤ b) (h4 : b ≤ 1000000) : -1000000000000 ≤ a * b ∧ a * b ≤ 1000000000000 := by
  have h : (a * b).natAbs ≤ 1000000 * 1000000 := by rw [Int.natAbs_mul]; exact Nat.mul_le_mul (by omega) (by omega)
  omega
def crs (n1 d1 n2 d2 : Int) : Int := n1 * d2 - n2 * d1
theorem crs_bd {n1 d1 n2 d2 : Int} (h1 : isE n1 d1) (h2 : isE n2 d2) : (crs n1 d1 n2 d2).natAbs ≤ 2000000000000 := by
  have a := isE_bd h1; have b := isE_bd h2
  have c := mul_bd (a := n1) (b := d2) (by omega) (by omega) (by omega) (by omega)
  have d := mul_bd (a := n2) (b := d1) (by omega) (by omega) (by omega) (by omega)
  unfold crs; omega
/-- two ends are the same if their cross is 0 -/
theorem crs_zero {n1 d1 n2 d2 : Int} (h1 : isE n1 d1) (h2 : isE n2 d2) (h : crs n1 d1 n2 d2 = 0) : n1 = n2 ∧ d1 = d2 := by
  unfold crs at h
  rcases h1 with ⟨a1, a2⟩ | ⟨a1, a2, a3, a4, a5⟩
  · rcases h2 with ⟨b1, b2⟩ | ⟨b1, b2, b3, b4, b5⟩
    · omega
    · subst a1 a2; simp at h; omega
  · rcases h2 with ⟨b1, b2⟩ | ⟨b1, b2, b3, b4, b5⟩
    · subst b1 b2; simp at h; omega
    · have e : n1 * d2 = n2 * d1 := by omega
      have e1 : d1 ∣ d2 := PM.dvd_of_dvd_mul_right_of_gcd_one (a := d1) (b := n1) (c := d2) ⟨n2, by rw [e, Int.mul_comm]⟩ (by rw [Int.gcd_comm]; exact a5)
      have e2 : d2 ∣ d1 := PM.dvd_of_dvd_mul_right_of_gcd_one (a := d2) (b := n2) (c := d1) ⟨n1, by rw [← e, Int.mul_comm]⟩ (by rw [Int.gcd_comm]; exact b5)
      have e3 : d1 = d2 := Int.dvd_antisymm (by omega) (by omega) e1 e2
      subst e3
      exact ⟨Int.eq_of_mul_eq_mul_right (by omega) e, rfl⟩

theorem l05Cross_eq {n1 d1 n2 d2 : Int} (h1 : isE n1 d1) (h2 : isE n2 d2) : spec_l05Cross.f n1 d1 n2 d2 = some (crs n1 d1 n2 d2) := by
  have a := isE_bd h1; have b := isE_bd h2
  have c := mul_bd (a := n1) (b := d2) (by omega) (by omega) (by omega) (by omega)
  have d := mul_bd (a := n2) (b := d1) (by omega) (by omega) (by omega) (by omega)
  unfold spec_l05Cross.f crs
  rw [w64 (n := n1 * d2) (by omega) (by omega), w64 (n := n2 * d1) (by omega) (by omega), w64 (by omega) (by omega)]

theorem cross_eq {n1 d1 n2 d2 : Int} (h1 : isE n1 d1) (h2 : isE n2 d2) : impl_cross.f n1 d1 n2 d2 = some (crs n1 d1 n2 d2) := by
  have a := isE_bd h1; have b := isE_bd h2
  have c := mul_bd (a := n1) (b := d2) (by omega) (by omega) (by omega) (by omega)
  have d := mul_bd (a := n2) (b := d1) (by omega) (by omega) (by omega) (by omega)
  unfold impl_cross.f crs
  rw [w64 (n := n1 * d2) (by omega) (by omega), w64 (n := n2 * d1) (by omega) (by omega), w64 (by omega) (by omega)]

def gapz (p n1 d1 n2 d2 : Int) : Int := (vl p (crs n1 d1 n2 d2) : Int) - vl p d1 - vl p d2

theorem l05Gap_eq {p n1 d1 n2 d2 : Int} (hp : Pr p) (h1 : isE n1 d1) (h2 : isE n2 d2) (hd1 : d1 ≠ 0) (hd2 : d2 ≠ 0) (hne : ¬ (n1 = n2 ∧ d1 = d2)) : ∀ k, 70 ≤ k → spec_l05Gap.f k p n1 d1 n2 d2 = some (gapz p n1 d1 n2 d2) := by
  intro k hk
  have a := isE_bd h1; have b := isE_bd h2
  have hc : crs n1 d1 n2 d2 ≠ 0 := fun h => hne (crs_zero h1 h2 h)
  have hb := crs_bd h1 h2
  have v1 := vl_le63 hp hc (by omega)
  have v2 := vl_le63 hp hd1 (by omega)
  have v3 := vl_le63 hp hd2 (by omega)
  unfold spec_l05Gap.f gapz
  rw [l05Cross_eq h1 h2]
  simp only [Option.bind_some]
  rw [val_eq p _ hp hc (by omega) k hk]
  simp only [Option.bind_some]
  rw [val_eq p _ hp hd1 (by omega) k hk]
  simp only [Option.bind_some]
  rw [val_eq p _ hp hd2 (by omega) k hk]
  simp only [Option.bind_some]
  rw [w64 (n := (vl p (crs n1 d1 n2 d2) : Int) - vl p d1) (by omega) (by omega), w64 (by omega) (by omega)]

theorem gap_eq {p n1 d1 n2 d2 : Int} (hp : Pr p) (h1 : isE n1 d1) (h2 : isE n2 d2) (hd1 : d1 ≠ 0) (hd2 : d2 ≠ 0) (hne : ¬ (n1 = n2 ∧ d1 = d2)) : ∀ k, 70 ≤ k → impl_gap.f k p n1 d1 n2 d2 = some (gapz p n1 d1 n2 d2) := by
  intro k hk
  have a := isE_bd h1; have b := isE_bd h2
  have hc : crs n1 d1 n2 d2 ≠ 0 := fun h => hne (crs_zero h1 h2 h)
  have hb := crs_bd h1 h2
  have v1 := vl_le63 hp hc (by omega)
  have v2 := vl_le63 hp hd1 (by omega)
  have v3 := vl_le63 hp hd2 (by omega)
  unfold impl_gap.f gapz
  rw [cross_eq h1 h2]
  simp only [Option.bind_some]
  rw [valuation_eq p _ hp (by omega) k hk, vz_of_ne hc]
  simp only [Option.bind_some]
  rw [valuation_eq p _ hp (by omega) k hk, vz_of_ne hd1]
  simp only [Option.bind_some]
  rw [valuation_eq p _ hp (by omega) k hk, vz_of_ne hd2]
  simp only [Option.bind_some]
  rw [w64 (n := (vl p (crs n1 d1 n2 d2) : Int) - vl p d1) (by omega) (by omega), w64 (by omega) (by omega)]

theorem okSplit (p : Int) (lv top dn : Int) : PM.Ok p ⟨lv, top, dn⟩ ↔ (-6 ≤ lv ∧ lv ≤ 6 ∧ 0 ≤ dn ∧ dn ≤ 6) ∧ ((lv + dn ≤ 0 ∧ top = 0 ∧ dn = 0) ∨ (0 < lv + dn ∧ 0 ≤ top ∧ top < pw p (lv + dn) ∧ (dn = 0 ∨ ¬ p ∣ top))) := by
  unfold PM.Ok; simp only; constructor
  · intro ⟨a, b, c, d, e⟩; exact ⟨⟨a, b, c, d⟩, e⟩
  · intro ⟨⟨a, b, c, d⟩, e⟩; exact ⟨a, b, c, d, e⟩
theorem l01Is_eq (p lv top dn : Int) : ∀ k, 32 ≤ k → spec_l01Is.f k p lv top dn = some (decide (Pr p ∧ PM.Ok p ⟨lv, top, dn⟩)) := by
  intro k hk
  obtain ⟨k, rfl⟩ : ∃ m, k = m + 1 := ⟨k - 1, by omega⟩
  have jt : spec_l01Is.j0 (k + 1) p true lv top dn = some false := by simp [spec_l01Is.j0]
  unfold spec_l01Is.f
  rcases prime_cases p with ⟨h, hp⟩ | ⟨h, hp⟩
  · have hp : Pr p := hp
    rw [h, in_eq, in_eq]
    simp only [Option.bind_some, if_true]
    by_cases h1 : -6 ≤ lv ∧ lv ≤ 6
    · rw [decide_eq_true h1, if_pos rfl]
      by_cases h2 : 0 ≤ dn ∧ dn ≤ 6
      · rw [decide_eq_true h2]
        simp only [Bool.not_true, spec_l01Is.j0]
        rw [if_neg (by simp), w64 (by omega) (by omega)]
        by_cases h3 : lv + dn ≤ 0
        · rw [if_pos h3]
          by_cases h4 : top = 0
          · rw [if_pos h4]
            congr 1; rw [Bool.eq_iff_iff]
            simp only [decide_eq_true_eq, okSplit, beq_iff_eq]
            constructor
            · intro h5; exact ⟨hp, ⟨by omega, Or.inl ⟨h3, h4, h5⟩⟩⟩
            · intro ⟨_, _, h5⟩; omega
          · rw [if_neg h4, decide_eq_false]
            rw [okSplit]; intro ⟨_, _, h5⟩; omega
        · rw [if_neg h3, l01Power_eq p _ hp (by omega) (by omega) k (by omega)]
          have hb := pw_bd12 p (lv + dn) hp (by omega)
          simp only [Option.bind_some]
          rw [in_eq, w64 (by omega) (by omega)]
          simp only [Option.bind_some]
          by_cases h4 : 0 ≤ top ∧ top ≤ pw p (lv + dn) - 1
          · rw [decide_eq_true h4, if_pos rfl]
            by_cases h5 : dn = 0
            · rw [if_pos h5, decide_eq_true]
              rw [okSplit]; exact ⟨hp, by omega, Or.inr ⟨by omega, by omega, by omega, Or.inl h5⟩⟩
            · have hp2 := hp.pos
              rw [if_neg h5, if_neg (by omega)]
              congr 1; rw [Bool.eq_iff_iff]
              simp only [decide_eq_true_eq, okSplit, bne_iff_ne, ne_eq, tmod_zero_iff]
              constructor
              · intro h6; exact ⟨hp, by omega, Or.inr ⟨by omega, by omega, by omega, Or.inr h6⟩⟩
              · intro ⟨_, _, h6⟩ h7
                rcases h6 with h6 | ⟨_, _, _, h6⟩
                · omega
                · rcases h6 with h6 | h6
                  · exact h5 h6
                  · exact h6 h7
          · rw [decide_eq_false h4, if_neg (by simp), decide_eq_false]
            rw [okSplit]; intro ⟨_, _, h5⟩; omega
      · rw [decide_eq_false h2, Bool.not_false, jt, decide_eq_false]
        rw [okSplit]; intro ⟨_, h5, _⟩; omega
    · rw [decide_eq_false h1, if_neg (by simp), jt, decide_eq_false]
      rw [okSplit]; intro ⟨_, h5, _⟩; omega
  · rw [h]
    simp only [Option.bind_some]
    rw [if_neg (by simp), jt, decide_eq_false]
    intro ⟨h1, _⟩; exact hp h1

theorem isLevel_eq (n : Int) : impl_isLevel.f n = some (decide (-6 ≤ n ∧ n ≤ 6)) := by
  unfold impl_isLevel.f
  by_cases h : -6 ≤ n
  · rw [if_pos h]; simp [h]
  · rw [if_neg (by omega)]; simp [h]
theorem IsBall_eq (p lv top dn : Int) : ∀ k, 32 ≤ k → impl_IsBall.f k p lv top dn = some (decide (Pr p ∧ PM.Ok p ⟨lv, top, dn⟩)) := by
  intro k hk
  obtain ⟨k, rfl⟩ : ∃ m, k = m + 1 := ⟨k - 1, by omega⟩
  have jt : impl_IsBall.j0 (k + 1) p true lv top dn = some false := by simp [impl_IsBall.j0]
  unfold impl_IsBall.f
  rw [isPrime_eq]
  rcases prime_cases p with ⟨h, hp⟩ | ⟨h, hp⟩
  · have hp : Pr p := hp
    rw [h, isLevel_eq]
    simp only [Option.bind_some, if_true]
    by_cases h1 : -6 ≤ lv ∧ lv ≤ 6
    · rw [decide_eq_true h1, if_pos rfl]
      by_cases h2 : dn < 0
      · rw [if_pos h2, jt, decide_eq_false]
        rw [okSplit]; intro ⟨_, h5, _⟩; omega
      · rw [if_neg h2]
        by_cases h2' : dn > 6
        · rw [decide_eq_true h2', jt, decide_eq_false]
          rw [okSplit]; intro ⟨_, h5, _⟩; omega
        · rw [decide_eq_false h2']
          simp only [impl_IsBall.j0]
          rw [if_neg (by simp), w64 (by omega) (by omega)]
          by_cases h3 : lv + dn ≤ 0
          · rw [if_pos h3]
            by_cases h4 : top = 0
            · rw [if_pos h4]
              congr 1; rw [Bool.eq_iff_iff]
              simp only [decide_eq_true_eq, okSplit, beq_iff_eq]
              constructor
              · intro h5; exact ⟨hp, ⟨by omega, Or.inl ⟨h3, h4, h5⟩⟩⟩
              · intro ⟨_, _, h5⟩; omega
            · rw [if_neg h4, decide_eq_false]
              rw [okSplit]; intro ⟨_, _, h5⟩; omega
          · rw [if_neg h3]
            have hb := pw_bd12 p (lv + dn) hp (by omega)
            by_cases h4 : top ≥ 0
            · rw [if_pos h4, power_eq p _ hp (by omega) k (by omega)]
              simp only [Option.bind_some]
              by_cases h4' : top < pw p (lv + dn)
              · rw [if_pos h4']
                by_cases h5 : dn = 0
                · rw [if_pos h5, decide_eq_true]
                  rw [okSplit]; exact ⟨hp, by omega, Or.inr ⟨by omega, by omega, by omega, Or.inl h5⟩⟩
                · have hp2 := hp.pos
                  rw [if_neg h5, if_neg (by omega)]
                  congr 1; rw [Bool.eq_iff_iff]
                  simp only [decide_eq_true_eq, okSplit, bne_iff_ne, ne_eq, tmod_zero_iff]
                  constructor
                  · intro h6; exact ⟨hp, by omega, Or.inr ⟨by omega, by omega, by omega, Or.inr h6⟩⟩
                  · intro ⟨_, _, h6⟩ h7
                    rcases h6 with h6 | ⟨_, _, _, h6⟩
                    · omega
                    · rcases h6 with h6 | h6
                      · exact h5 h6
                      · exact h6 h7
              · rw [if_neg h4', decide_eq_false]
                rw [okSplit]; intro ⟨_, _, h5⟩; omega
            · rw [if_neg h4, decide_eq_false]
              rw [okSplit]; intro ⟨_, _, h5⟩; omega
    · rw [decide_eq_false h1, if_neg (by simp), jt, decide_eq_false]
      rw [okSplit]; intro ⟨_, h5, _⟩; omega
  · rw [h]
    simp only [Option.bind_some]
    rw [if_neg (by simp), jt, decide_eq_false]
    intro ⟨h1, _⟩; exact hp h1

def bOk (p : Int) (x : S34) : Bool := decide (PM.Ok p ⟨x.f0, x.f1, x.f2⟩)
theorem rdB (l : List S34) (i : Nat) (h : i < l.length) : rd_T34 l (i : Int) = l[i]'h := by
  unfold rd_T34; simp [List.getD_eq_getElem?_getD, h]

theorem l01Code_eq (p : Int) (l : List S34) (hl : l.length ≤ 1000) : ∃ K, ∀ k, K ≤ k → spec_l01Code.f k p l = some (if Pr p ∧ l.all (bOk p) = true then 0 else 1) := by
  rcases prime_cases p with ⟨h, hp⟩ | ⟨h, hp⟩
  · have hp : Pr p := hp
    have go : ∀ (d i k : Nat), i + d = l.length → d + 34 ≤ k → spec_l01Code.l0 k p l i = some (if (l.drop i).all (bOk p) = true then 0 else 1) := by
      intro d
      induction d with
      | zero =>
        intro i k hi hk
        obtain ⟨k, rfl⟩ : ∃ m, k = m + 1 := ⟨k - 1, by omega⟩
        simp only [spec_l01Code.l0]
        rw [if_neg (by omega), List.drop_eq_nil_of_le (by omega)]; rfl
      | succ d ih =>
        intro i k hi hk
        obtain ⟨k, rfl⟩ : ∃ m, k = m + 1 := ⟨k - 1, by omega⟩
        simp only [spec_l01Code.l0]
        rw [if_pos (by omega), if_pos (by omega), rdB l i (by omega), l01Is_eq _ _ _ _ k (by omega), all_drop (bOk p) l i (by omega), w64 (by omega) (by omega), show ((i : Int) + 1) = ((i + 1 : Nat) : Int) from by omega, ih (i + 1) k (by omega) (by omega)]
        simp only [Option.bind_some]
        show _ = some (if (decide (PM.Ok _ _) && _) = true then _ else _)
        by_cases h : PM.Ok p ⟨(l[i]'(by omega)).f0, (l[i]'(by omega)).f1, (l[i]'(by omega)).f2⟩
        · rw [decide_eq_true h, decide_eq_true ⟨hp, h⟩]; simp
        · rw [decide_eq_false h, decide_eq_false (fun g => h g.2)]; simp
    refine ⟨l.length + 34, fun k hk => ?_⟩
    unfold spec_l01Code.f
    rw [h]
    simp only [Option.bind_some, if_true]
    have := go l.length 0 k (by omega) (by omega)
    rw [show ((0 : Nat) : Int) = 0 from rfl, List.drop_zero] at this
    rw [this]
    by_cases g : l.all (bOk p) = true
    · rw [if_pos g, if_pos ⟨hp, g⟩]
    · rw [if_neg g, if_neg (fun z => g z.2)]
  · refine ⟨0, fun k _ => ?_⟩
    unfold spec_l01Code.f
    rw [h]
    simp only [Option.bind_some]
    rw [if_neg (by simp), if_neg (fun z => hp z.1)]

theorem l05Code_eq (p : Int) (l : List S34) (m : List S24) (hl : l.length ≤ 1000) (hm : m.length ≤ 1000) : ∃ K, ∀ k, K ≤ k → spec_l05Code.f k p l m = some (if (Pr p ∧ l.all (bOk p) = true) ∧ m.all eOk = true then (if dif m = true then 0 else 5) else 1) := by
  obtain ⟨K1, h1⟩ := l01Code_eq p l hl
  obtain ⟨K2, h2⟩ := l05Code_l0 m hm
  refine ⟨K1 + K2, fun k hk => ?_⟩
  unfold spec_l05Code.f
  rw [h1 k (by omega)]
  simp only [Option.bind_some]
  by_cases c1 : Pr p ∧ l.all (bOk p) = true
  · rw [if_pos c1, if_pos rfl, h2 k (by omega)]
    by_cases c2 : m.all eOk = true
    · rw [if_pos c2, if_pos (show (Pr p ∧ l.all (bOk p) = true) ∧ m.all eOk = true from ⟨c1, c2⟩)]
    · rw [if_neg c2, if_neg (fun z => c2 z.2)]
  · rw [if_neg c1, if_neg (by omega), if_neg (fun z => c1 z.1)]
theorem dif2 (a b c d : Int) : dif [(⟨a, b⟩ : S24), ⟨c, d⟩] = !(decide (a = c ∧ b = d)) := by
  simp [dif, difFrom, difAt, rd_T24]
  by_cases h : a = c <;> by_cases h' : b = d <;> simp [h, h']
theorem all2 (a b c d : Int) : ([(⟨a, b⟩ : S24), ⟨c, d⟩].all eOk = true) ↔ (isE a b ∧ isE c d) := by
  simp [eOk]

theorem mul_bd2 {a b : Int} (A B : Int) (h1 : -A ≤ a) (h2 : a ≤ A) (h3 : -B ≤ b) (h4 : b ≤ B) : -(A * B) ≤ a * b ∧ a * b ≤ A * B := by
  have hA : 0 ≤ A := by omega
  have hB : 0 ≤ B := by omega
  have h : (a * b).natAbs ≤ A.natAbs * B.natAbs := by
    rw [Int.natAbs_mul]; exact Nat.mul_le_mul (by omega) (by omega)
  rw [← Int.natAbs_mul] at h
  have : 0 ≤ A * B := Int.mul_nonneg hA hB
  omega
theorem mn_min (a b : Int) : mn a b = min a b := by unfold mn; split <;> omega
theorem mx_max (a b : Int) : mx a b = max a b := by unfold mx; split <;> omega
theorem okb {p lv top dn : Int} (h : PM.Ok p ⟨lv, top, dn⟩) : -6 ≤ lv ∧ lv ≤ 6 ∧ 0 ≤ dn ∧ dn ≤ 6 ∧ 0 ≤ top := by
  unfold PM.Ok at h; simp only at h; omega
theorem ok_top {p lv top dn : Int} (hp : Pr p) (h : PM.Ok p ⟨lv, top, dn⟩) : 0 ≤ top ∧ top ≤ 13841287201 := by
  have hb := okb h
  have := pw_bd12 p (lv + dn) hp (by omega)
  unfold PM.Ok at h; simp only at h; omega
theorem mark_bd12 {p lv top dn : Int} (hp : Pr p) (h : PM.Ok p ⟨lv, top, dn⟩) : 0 ≤ PM.mark p ⟨lv, top, dn⟩ ∧ PM.mark p ⟨lv, top, dn⟩ ≤ 13841287201 := by
  have hb := okb h
  have := PM.mark_bd hp h
  have := pw_bd12 p (lv + 6) hp (by omega)
  simp only at *; omega

theorem mark_eq {p lv top dn : Int} (hp : Pr p) (h : PM.Ok p ⟨lv, top, dn⟩) : ∀ k, 30 ≤ k → impl_mark.f k p lv top dn = some (PM.mark p ⟨lv, top, dn⟩) := by
  intro k hk
  have hb := okb h
  have hm := mark_bd12 hp h
  unfold impl_mark.f
  rw [w64 (n := 6 - dn) (by omega) (by omega), power_eq p _ hp (by omega) k hk]
  simp only [Option.bind_some]
  unfold PM.mark at hm ⊢
  simp only at hm ⊢
  rw [w64 (by omega) (by omega)]

theorem turning_eq {p lv top dn n d : Int} (hp : Pr p) (h : PM.Ok p ⟨lv, top, dn⟩) (he : isE n d) (hd : d ≠ 0) : ∀ k, 70 ≤ k → impl_turning.f k p lv top dn n d = some (PM.turn p lv (PM.mark p ⟨lv, top, dn⟩) n d) := by
  intro k hk
  have hb := okb h
  have hm := mark_bd12 hp h
  have hE := isE_bd he
  have h6 := pw_bd6 p 6 hp (by omega)
  unfold impl_turning.f impl_nearness.f
  rw [power_eq p 6 hp (by omega) k (by omega), mark_eq hp h k (by omega)]
  simp only [Option.bind_some]
  generalize PM.mark p ⟨lv, top, dn⟩ = x at hm ⊢
  have m1 := mul_bd2 (a := n) (b := pw p 6) 1000000 117649 (by omega) (by omega) (by omega) (by omega)
  have m2 := mul_bd2 (a := x) (b := d) 13841287201 1000000 (by omega) (by omega) (by omega) (by omega)
  rw [w64 (n := n * pw p 6) (by omega) (by omega), w64 (n := x * d) (by omega) (by omega), w64 (n := n * pw p 6 - x * d) (by omega) (by omega)]
  have hd6 := vl_le63 hp hd (by omega)
  unfold PM.turn PM.dv
  by_cases z : n * pw p 6 - x * d = 0
  · rw [if_pos z, if_pos z]
    simp only [Option.bind_some, mn_min]
    rw [Int.min_eq_left (by omega)]
  · have hv := vl_le63 hp z (by omega)
    rw [if_neg z, if_neg z, valuation_eq p _ hp (by omega) k hk, valuation_eq p _ hp (by omega) k hk, vz_of_ne z, vz_of_ne hd]
    simp only [Option.bind_some, mn_min]
    rw [w64 (n := (vl p (n * pw p 6 - x * d) : Int) - vl p d) (by omega) (by omega), w64 (by omega) (by omega)]
theorem turn_bd {p lv x n d : Int} (hp : Pr p) (hx : 0 ≤ x ∧ x ≤ 13841287201) (hl : -6 ≤ lv ∧ lv ≤ 6) (he : isE n d) (hd : d ≠ 0) : -100 ≤ PM.turn p lv x n d ∧ PM.turn p lv x n d ≤ 6 := by
  have h1 := PM.turn_le p lv x n d
  have hE := isE_bd he
  have hd6 := vl_le63 hp hd (by omega)
  refine ⟨?_, by omega⟩
  unfold PM.turn; split <;> omega

theorem l02Meet_eq {p lv top dn n d : Int} (hp : Pr p) (h : PM.Ok p ⟨lv, top, dn⟩) (he : isE n d) (hd : d ≠ 0) : ∀ k, 70 ≤ k → spec_l02Meet.f k p lv top dn n d = some (PM.turn p lv (PM.mark p ⟨lv, top, dn⟩) n d) := by
  intro k hk
  have hb := okb h
  have ht := ok_top hp h
  have hE := isE_bd he
  have h6 := pw_bd6 p dn hp (by omega)
  unfold spec_l02Meet.f
  rw [l01Power_eq p dn hp (by omega) (by omega) k (by omega), show PM.turn p lv (PM.mark p ⟨lv, top, dn⟩) n d = _ from PM.turn_down hp h n d]
  simp only [Option.bind_some]
  have m1 := mul_bd2 (a := n) (b := pw p dn) 1000000 117649 (by omega) (by omega) (by omega) (by omega)
  have m2 := mul_bd2 (a := top) (b := d) 13841287201 1000000 (by omega) (by omega) (by omega) (by omega)
  rw [w64 (n := n * pw p dn) (by omega) (by omega), w64 (n := top * d) (by omega) (by omega), w64 (n := n * pw p dn - top * d) (by omega) (by omega)]
  have hd6 := vl_le63 hp hd (by omega)
  by_cases z : n * pw p dn - top * d = 0
  · rw [if_pos z, if_pos z]
  · have hv := vl_le63 hp z (by omega)
    rw [if_neg z, if_neg z, val_eq p _ hp z (by omega) k hk, val_eq p _ hp hd (by omega) k hk]
    simp only [Option.bind_some, mn_min]
    rw [w64 (n := (vl p (n * pw p dn - top * d) : Int) - vl p d) (by omega) (by omega), w64 (by omega) (by omega)]

theorem lineCode_eq (p lv top dn n1 d1 n2 d2 : Int) : ∃ K, ∀ k, K ≤ k → impl_lineCode.f k p lv top dn n1 d1 n2 d2 = some (if (Pr p ∧ PM.Ok p ⟨lv, top, dn⟩) ∧ isE n1 d1 ∧ isE n2 d2 then (if n1 = n2 ∧ d1 = d2 then 5 else 0) else 1) := by
  obtain ⟨K, h⟩ := areEnds_eq [⟨n1, d1⟩, ⟨n2, d2⟩] (by simp)
  refine ⟨K + 40, fun k hk => ?_⟩
  obtain ⟨k, rfl⟩ : ∃ m, k = m + 1 := ⟨k - 1, by omega⟩
  unfold impl_lineCode.f
  rw [IsBall_eq p lv top dn _ (by omega), h _ (by omega)]
  simp only [Option.bind_some]
  by_cases c : Pr p ∧ PM.Ok p ⟨lv, top, dn⟩
  · rw [decide_eq_true c, if_pos rfl]
    by_cases e : isE n1 d1 ∧ isE n2 d2
    · rw [(all2 _ _ _ _).2 e, if_pos (show (Pr p ∧ PM.Ok p ⟨lv, top, dn⟩) ∧ isE n1 d1 ∧ isE n2 d2 from ⟨c, e⟩)]
      by_cases q : n1 = n2 ∧ d1 = d2
      · rw [if_pos q]; simp [impl_lineCode.j0, q]
      · have q' : ¬ ((n1 == n2 && (d1 == d2)) = true) := by simpa using q
        rw [if_neg q]; simp [impl_lineCode.j0, q']
    · rw [Bool.eq_false_iff.mpr (fun z => e ((all2 _ _ _ _).1 z)), if_neg (show ¬ ((Pr p ∧ PM.Ok p ⟨lv, top, dn⟩) ∧ isE n1 d1 ∧ isE n2 d2) from fun z => e z.2)]
      simp [impl_lineCode.j0]
  · rw [decide_eq_false c, if_neg (by simp), if_neg (show ¬ ((Pr p ∧ PM.Ok p ⟨lv, top, dn⟩) ∧ isE n1 d1 ∧ isE n2 d2) from fun z => c z.1)]
    simp [impl_lineCode.j0]

theorem l05Code_line (p lv top dn n1 d1 n2 d2 : Int) : ∃ K, ∀ k, K ≤ k → spec_l05Code.f k p [⟨lv, top, dn⟩] [⟨n1, d1⟩, ⟨n2, d2⟩] = some (if (Pr p ∧ PM.Ok p ⟨lv, top, dn⟩) ∧ isE n1 d1 ∧ isE n2 d2 then (if n1 = n2 ∧ d1 = d2 then 5 else 0) else 1) := by
  obtain ⟨K, h⟩ := l05Code_eq p [⟨lv, top, dn⟩] [⟨n1, d1⟩, ⟨n2, d2⟩] (by simp) (by simp)
  refine ⟨K, fun k hk => ?_⟩
  rw [h k hk, dif2]
  have e : ((Pr p ∧ ([(⟨lv, top, dn⟩ : S34)].all (bOk p) = true)) ∧ [(⟨n1, d1⟩ : S24), ⟨n2, d2⟩].all eOk = true) ↔ ((Pr p ∧ PM.Ok p ⟨lv, top, dn⟩) ∧ isE n1 d1 ∧ isE n2 d2) := by
    rw [all2]; simp [bOk]
  by_cases c : (Pr p ∧ PM.Ok p ⟨lv, top, dn⟩) ∧ isE n1 d1 ∧ isE n2 d2
  · rw [if_pos (e.mpr c), if_pos c]
    by_cases q : n1 = n2 ∧ d1 = d2
    · rw [decide_eq_true q, if_pos q]; rfl
    · rw [decide_eq_false q, if_neg q]; rfl
  · rw [if_neg (fun z => c (e.mp z)), if_neg c]

def lineB (p lv x n1 d1 n2 d2 : Int) : Int × Bool × Int :=
  if d1 = 0 then (PM.turn p lv x n2 d2, false, lv - PM.turn p lv x n2 d2)
  else if d2 = 0 then (PM.turn p lv x n1 d1, false, lv - PM.turn p lv x n1 d1)
  else if PM.turn p lv x n1 d1 = PM.turn p lv x n2 d2 then (gapz p n1 d1 n2 d2, true, lv - PM.turn p lv x n1 d1 + gapz p n1 d1 n2 d2 - PM.turn p lv x n1 d1)
  else (max (PM.turn p lv x n1 d1) (PM.turn p lv x n2 d2), false, lv - max (PM.turn p lv x n1 d1) (PM.turn p lv x n2 d2))
theorem zeros {n1 d1 n2 d2 : Int} (h1 : isE n1 d1) (h2 : isE n2 d2) (hne : ¬ (n1 = n2 ∧ d1 = d2)) : ¬ (d1 = 0 ∧ d2 = 0) := by
  unfold isE at h1 h2; omega
theorem gapz_bd {p n1 d1 n2 d2 : Int} (hp : Pr p) (h1 : isE n1 d1) (h2 : isE n2 d2) (hd1 : d1 ≠ 0) (hd2 : d2 ≠ 0) (hne : ¬ (n1 = n2 ∧ d1 = d2)) : -200 ≤ gapz p n1 d1 n2 d2 ∧ gapz p n1 d1 n2 d2 ≤ 63 := by
  have a := isE_bd h1; have b := isE_bd h2
  have hc : crs n1 d1 n2 d2 ≠ 0 := fun h => hne (crs_zero h1 h2 h)
  have hb := crs_bd h1 h2
  have v1 := vl_le63 hp hc (by omega)
  have v2 := vl_le63 hp hd1 (by omega)
  have v3 := vl_le63 hp hd2 (by omega)
  unfold gapz; omega
theorem lineAt_eq {p lv top dn n1 d1 n2 d2 : Int} (hp : Pr p) (h : PM.Ok p ⟨lv, top, dn⟩) (h1 : isE n1 d1) (h2 : isE n2 d2) (hne : ¬ (n1 = n2 ∧ d1 = d2)) : ∀ k, 71 ≤ k → impl_lineAt.f k p lv top dn n1 d1 n2 d2 = some (lineB p lv (PM.mark p ⟨lv, top, dn⟩) n1 d1 n2 d2) := by
  intro k hk
  obtain ⟨k, rfl⟩ : ∃ m, k = m + 1 := ⟨k - 1, by omega⟩
  have hb := okb h
  have hm := mark_bd12 hp h
  have hz := zeros h1 h2 hne
  unfold impl_lineAt.f lineB
  by_cases z2 : d2 = 0
  · have z1 : d1 ≠ 0 := fun z => hz ⟨z, z2⟩
    have b1 := turn_bd hp hm (by omega) h1 z1 (lv := lv)
    rw [if_pos z2, if_neg z1, if_pos z2]
    simp only [impl_lineAt.j0]
    rw [if_pos z2, turning_eq hp h h1 z1 k (by omega)]
    simp only [Option.bind_some]
    rw [w64 (by omega) (by omega)]
  · have b2 := turn_bd hp hm (by omega) h2 z2 (lv := lv)
    rw [if_neg z2]
    simp only [impl_lineAt.j0]
    by_cases z1 : d1 = 0
    · rw [if_pos z1, if_pos z1, turning_eq hp h h2 z2 k (by omega)]
      simp only [Option.bind_some]
      rw [w64 (by omega) (by omega)]
    · have b1 := turn_bd hp hm (by omega) h1 z1 (lv := lv)
      have bg := gapz_bd hp h1 h2 z1 z2 hne
      rw [if_neg z1, if_neg z1, if_neg z2, turning_eq hp h h2 z2 k (by omega), turning_eq hp h h1 z1 k (by omega), gap_eq hp h1 h2 z1 z2 hne k (by omega)]
      simp only [Option.bind_some, mx_max]
      generalize PM.turn p lv (PM.mark p ⟨lv, top, dn⟩) n1 d1 = t1 at *
      generalize PM.turn p lv (PM.mark p ⟨lv, top, dn⟩) n2 d2 = t2 at *
      generalize gapz p n1 d1 n2 d2 = g at *
      by_cases e : t1 = t2
      · rw [if_pos e, if_pos e, w64 (n := lv - t1) (by omega) (by omega), w64 (n := lv - t1 + g) (by omega) (by omega), w64 (by omega) (by omega)]
      · rw [if_neg e, if_neg e, w64 (n := lv - max t1 t2) (by omega) (by omega)]

def nearB (p lv x n1 d1 n2 d2 : Int) : Int × Int × Int :=
  if d2 = 0 then (n1, d1, PM.turn p lv x n1 d1) else if d1 = 0 then (n2, d2, PM.turn p lv x n2 d2)
  else if PM.turn p lv x n1 d1 ≥ PM.turn p lv x n2 d2 then (n1, d1, max (PM.turn p lv x n1 d1) (gapz p n1 d1 n2 d2))
  else (n2, d2, max (PM.turn p lv x n2 d2) (gapz p n1 d1 n2 d2))
theorem l05Nearest_eq {p lv top dn n1 d1 n2 d2 : Int} (hp : Pr p) (h : PM.Ok p ⟨lv, top, dn⟩) (h1 : isE n1 d1) (h2 : isE n2 d2) (hne : ¬ (n1 = n2 ∧ d1 = d2)) : ∀ k, 70 ≤ k → spec_l05Nearest.f k p lv top dn n1 d1 n2 d2 = some (nearB p lv (PM.mark p ⟨lv, top, dn⟩) n1 d1 n2 d2) := by
  intro k hk
  have hz : ¬ (d1 = 0 ∧ d2 = 0) := by unfold isE at h1 h2; omega
  unfold spec_l05Nearest.f nearB
  by_cases z2 : d2 = 0
  · have z1 : d1 ≠ 0 := fun z => hz ⟨z, z2⟩
    rw [if_pos z2, if_pos z2, l02Meet_eq hp h h1 z1 k hk]; rfl
  · rw [if_neg z2, if_neg z2]
    by_cases z1 : d1 = 0
    · rw [if_pos z1, if_pos z1, l02Meet_eq hp h h2 z2 k hk]; rfl
    · rw [if_neg z1, if_neg z1, l02Meet_eq hp h h2 z2 k hk, l02Meet_eq hp h h1 z1 k hk, l05Gap_eq hp h1 h2 z1 z2 hne k hk]
      simp only [Option.bind_some, mx_max]
      split <;> rfl

theorem l05Steps_eq {p lv top dn n1 d1 n2 d2 : Int} (hp : Pr p) (h : PM.Ok p ⟨lv, top, dn⟩) (h1 : isE n1 d1) (h2 : isE n2 d2) (hne : ¬ (n1 = n2 ∧ d1 = d2)) : ∀ k, 70 ≤ k → spec_l05Steps.f k p lv top dn n1 d1 n2 d2 = some ((lineB p lv (PM.mark p ⟨lv, top, dn⟩) n1 d1 n2 d2).2.2) := by
  intro k hk
  have hb := okb h
  have hm := mark_bd12 hp h
  have hz := zeros h1 h2 hne
  unfold spec_l05Steps.f
  rw [l05Nearest_eq hp h h1 h2 hne k hk]
  simp only [Option.bind_some]
  unfold nearB lineB
  by_cases z2 : d2 = 0
  · have z1 : d1 ≠ 0 := fun z => hz ⟨z, z2⟩
    have b1 := turn_bd hp hm (by omega) h1 z1 (lv := lv)
    rw [if_pos z2, if_neg z1, if_pos z2]
    simp only
    rw [l02Meet_eq hp h h1 z1 k hk]
    simp only [Option.bind_some, mn_min, Int.min_self]
    generalize PM.turn p lv (PM.mark p ⟨lv, top, dn⟩) n1 d1 = t1 at *
    rw [w64 (n := lv - t1) (by omega) (by omega), w64 (n := lv - t1 + t1) (by omega) (by omega), w64 (by omega) (by omega)]
    congr 1; omega
  · have b2 := turn_bd hp hm (by omega) h2 z2 (lv := lv)
    rw [if_neg z2]
    by_cases z1 : d1 = 0
    · rw [if_pos z1, if_pos z1]
      simp only
      rw [l02Meet_eq hp h h2 z2 k hk]
      simp only [Option.bind_some, mn_min, Int.min_self]
      generalize PM.turn p lv (PM.mark p ⟨lv, top, dn⟩) n2 d2 = t1 at *
      rw [w64 (n := lv - t1) (by omega) (by omega), w64 (n := lv - t1 + t1) (by omega) (by omega), w64 (by omega) (by omega)]
      congr 1; omega
    · have b1 := turn_bd hp hm (by omega) h1 z1 (lv := lv)
      have bg := gapz_bd hp h1 h2 z1 z2 hne
      have hc : PM.cr n1 d1 n2 d2 ≠ 0 := fun h => hne (crs_zero h1 h2 h)
      obtain ⟨u1, u2, u3⟩ := PM.gap_turn (lv := lv) (x := PM.mark p ⟨lv, top, dn⟩) hp z1 z2 hc
      rw [show (vl p (PM.cr n1 d1 n2 d2) : Int) - vl p d1 - vl p d2 = gapz p n1 d1 n2 d2 from rfl] at u1 u2 u3
      have m1 := l02Meet_eq hp h h1 z1 k hk
      have m2 := l02Meet_eq hp h h2 z2 k hk
      rw [if_neg z1, if_neg z1, if_neg z2]
      generalize PM.turn p lv (PM.mark p ⟨lv, top, dn⟩) n1 d1 = t1 at *
      generalize PM.turn p lv (PM.mark p ⟨lv, top, dn⟩) n2 d2 = t2 at *
      generalize gapz p n1 d1 n2 d2 = g at *
      by_cases e : t1 ≥ t2
      · rw [if_pos e]
        simp only
        rw [m1]
        simp only [Option.bind_some, mn_min]
        rw [w64 (n := lv - min t1 (max t1 g)) (by omega) (by omega), w64 (n := lv - min t1 (max t1 g) + max t1 g) (by omega) (by omega), w64 (by omega) (by omega)]
        by_cases q : t1 = t2
        · rw [if_pos q]; simp only; congr 1; have := u1 q; omega
        · rw [if_neg q]; simp only; congr 1; have := u2 (by omega); omega
      · rw [if_neg e]
        simp only
        rw [m2]
        simp only [Option.bind_some, mn_min]
        rw [w64 (n := lv - min t2 (max t2 g)) (by omega) (by omega), w64 (n := lv - min t2 (max t2 g) + max t2 g) (by omega) (by omega), w64 (by omega) (by omega)]
        rw [if_neg (show ¬ t1 = t2 by omega)]; simp only; congr 1; have := u3 (by omega); omega


def res (p lv top dn n1 d1 n2 d2 : Int) : Int × Int :=
  if (Pr p ∧ PM.Ok p ⟨lv, top, dn⟩) ∧ isE n1 d1 ∧ isE n2 d2 then (if n1 = n2 ∧ d1 = d2 then (0, 5) else ((lineB p lv (PM.mark p ⟨lv, top, dn⟩) n1 d1 n2 d2).2.2, 0)) else (0, 1)
theorem spec_res (p lv top dn n1 d1 n2 d2 : Int) : ∃ K, ∀ k, K ≤ k → spec_DistanceToLine.f k p lv top dn n1 d1 n2 d2 = some (res p lv top dn n1 d1 n2 d2) := by
  obtain ⟨K, hK⟩ := l05Code_line p lv top dn n1 d1 n2 d2
  refine ⟨K + 80, fun k hk => ?_⟩
  unfold spec_DistanceToLine.f res
  rw [hK k (by omega)]
  simp only [Option.bind_some]
  by_cases c : (Pr p ∧ PM.Ok p ⟨lv, top, dn⟩) ∧ isE n1 d1 ∧ isE n2 d2
  · rw [if_pos c, if_pos c]
    by_cases q : n1 = n2 ∧ d1 = d2
    · rw [if_pos q, if_pos q]; rfl
    · rw [if_neg q, if_neg q, if_pos rfl, l05Steps_eq c.1.1 c.1.2 c.2.1 c.2.2 q k (by omega)]; rfl
  · rw [if_neg c, if_neg c]; rfl
theorem impl_res0 (p lv top dn n1 d1 n2 d2 : Int) : ∃ K, ∀ k, K ≤ k → impl_CommonSteps.f k p lv top dn n1 d1 n2 d2 = some (res p lv top dn n1 d1 n2 d2) := by
  obtain ⟨K, hK⟩ := lineCode_eq p lv top dn n1 d1 n2 d2
  refine ⟨K + 80, fun k hk => ?_⟩
  unfold impl_CommonSteps.f res
  rw [hK k (by omega)]
  simp only [Option.bind_some]
  by_cases c : (Pr p ∧ PM.Ok p ⟨lv, top, dn⟩) ∧ isE n1 d1 ∧ isE n2 d2
  · rw [if_pos c, if_pos c]
    by_cases q : n1 = n2 ∧ d1 = d2
    · rw [if_pos q, if_pos q]; rfl
    · rw [if_neg q, if_neg q, if_pos rfl, lineAt_eq c.1.1 c.1.2 c.2.1 c.2.2 q k (by omega)]; rfl
  · rw [if_neg c, if_neg c]; rfl
theorem impl_res (p lv top dn n1 d1 n2 d2 : Int) : ∃ K, ∀ k, K ≤ k → impl_DistanceToLine.f k p lv top dn n1 d1 n2 d2 = some (res p lv top dn n1 d1 n2 d2) := by
  obtain ⟨K, hK⟩ := impl_res0 p lv top dn n1 d1 n2 d2
  refine ⟨K, fun k hk => ?_⟩
  first
    | exact hK k hk
    | (unfold impl_DistanceToLine.f; rw [hK k hk]; rfl)
theorem FnExactDistanceToLine (p lv top dn n1 d1 n2 d2 : Int) (_ : (Lit.int .i64 p).wf = true) (_ : (Lit.int .i64 lv).wf = true) (_ : (Lit.int .i64 top).wf = true) (_ : (Lit.int .i64 dn).wf = true) (_ : (Lit.int .i64 n1).wf = true) (_ : (Lit.int .i64 d1).wf = true) (_ : (Lit.int .i64 n2).wf = true) (_ : (Lit.int .i64 d2).wf = true) : ∃ k, laws_FnExactDistanceToLine.f k p lv top dn n1 d1 n2 d2 = some true := by
  obtain ⟨K1, h1⟩ := spec_res p lv top dn n1 d1 n2 d2
  obtain ⟨K2, h2⟩ := impl_res p lv top dn n1 d1 n2 d2
  refine ⟨K1 + K2, ?_⟩
  unfold laws_FnExactDistanceToLine.f laws_toEnd.f laws_toBall.f
  simp only [Option.bind_some]
  rw [h1 _ (by omega), h2 _ (by omega)]
  simp

end Go.Proofs.Ytfkglijnbgijbaa.Pure
