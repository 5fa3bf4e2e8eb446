/- The program's CrossRatio and the reference's return the same, for all arguments: the printed functions' law answers true. -/
import Derived.Test.YtnejmbhpngdiiaaQLFnExactCrossRatio
import Derived.Test.YtnejmbhpngdiiaaMath
set_option linter.unusedVariables false
set_option linter.unusedSimpArgs false
namespace Go.Proofs.Ytnejmbhpngdiiaa.Pure
open Go.RowKit Go.Proofs.Ytnejmbhpngdiiaa.PAll Go.Proofs.YtnejmbhpngdiiaaW.PrintWords Go.Proofs.YtnejmbhpngdiiaaW.PrintLast PM

theorem w64 {n : Int} (h1 : -9223372036854775808 ≤ n) (h2 : n ≤ 9223372036854775807) : wrap64 n = n := by unfold wrap64; omega
theorem wfb {n : Int} (h : (Lit.int .i64 n).wf = true) : -9223372036854775808 ≤ n ∧ n ≤ 9223372036854775807 := by
  simp [Lit.wf, IntKind.min, IntKind.max, IntKind.bits, IntKind.signed] at h; omega
theorem rd_nat (l : List Int) (i : Nat) (h : i < l.length) : l[i]? = some (rd l (i : Int)) := by
  unfold rd; simp [List.getD_eq_getElem?_getD, h]

theorem prime_cases (p : Int) : (spec_l01Prime.f p = some true ∧ (p = 2 ∨ p = 3 ∨ p = 5 ∨ p = 7)) ∨ (spec_l01Prime.f p = some false ∧ ¬ (p = 2 ∨ p = 3 ∨ p = 5 ∨ p = 7)) := by
  unfold spec_l01Prime.f
  by_cases h2 : p = 2
  · simp [h2]
  by_cases h3 : p = 3
  · simp [h3]
  by_cases h5 : p = 5
  · simp [h5]
  by_cases h7 : p = 7
  · simp [h7]
  · simp [h2, h3, h5, h7]

theorem in_eq (n a b : Int) : spec_l01In.f n a b = some (decide (a ≤ n ∧ n ≤ b)) := by
  unfold spec_l01In.f
  by_cases h : a ≤ n
  · rw [if_pos h]; simp [h]
  · rw [if_neg (by omega)]; simp [h]

/-- all numbers of a list have absolute values of at most so much -/
def allB (m : Int) (l : List Int) : Bool := l.all fun x => decide (-m ≤ x ∧ x ≤ m)
theorem allB_drop (m : Int) (l : List Int) (i : Nat) (h : i < l.length) : allB m (l.drop i) = (decide (-m ≤ rd l i ∧ rd l i ≤ m) && allB m (l.drop (i + 1))) := by
  have h1 := rd_nat l i h
  rw [List.getElem?_eq_getElem h] at h1
  rw [List.drop_eq_getElem_cons h, Option.some.inj h1]; rfl
theorem allB_rd {m : Int} {l : List Int} (h : allB m l = true) {i : Int} (h0 : 0 ≤ i) (h1 : i < l.length) : -m ≤ rd l i ∧ rd l i ≤ m := by
  obtain ⟨n, rfl⟩ := Int.eq_ofNat_of_zero_le h0
  have h2 := rd_nat l n (by omega)
  rw [List.getElem?_eq_getElem (by omega)] at h2
  unfold allB at h
  rw [List.all_eq_true] at h
  have := h (l[n]'(by omega)) (List.getElem_mem _)
  rw [Option.some.inj h2] at this
  simpa using this

theorem within_eq (m : Int) (hm : 0 ≤ m) (hm2 : m ≤ 1000000000000000000) (l : List Int) (hl : l.length ≤ 1048576) : ∃ K, ∀ k, K ≤ k → impl_within.f k m l = some (allB m l) := by
  have go : ∀ (d k i : Nat), i + d = l.length → d < k → impl_within.l0 k m l l.length i = some (allB m (l.drop i)) := by
    intro d
    induction d with
    | zero =>
      intro k i h2 h3
      obtain ⟨k, rfl⟩ : ∃ m, k = m + 1 := ⟨k - 1, by omega⟩
      simp only [impl_within.l0]
      rw [if_neg (by omega), List.drop_eq_nil_of_le (by omega)]; rfl
    | succ d ih =>
      intro k i h2 h3
      obtain ⟨k, rfl⟩ : ∃ m, k = m + 1 := ⟨k - 1, by omega⟩
      simp only [impl_within.l0]
      rw [if_pos (by omega), if_pos (by omega), if_pos (by omega), allB_drop _ _ _ (by omega), w64 (n := -m) (by omega) (by omega), w64 (by omega) (by omega)]
      have := ih k (i + 1) (by omega) (by omega)
      rw [show ((i : Int) + 1) = ((i + 1 : Nat) : Int) from by omega, this]
      by_cases h : rd l (i : Int) < -m
      · rw [if_pos h, decide_eq_false (by omega)]; rfl
      · rw [if_neg h]
        by_cases h' : rd l (i : Int) > m
        · rw [if_pos h', decide_eq_false (by omega)]; rfl
        · rw [if_neg h', decide_eq_true (by omega)]; rfl
  exact ⟨l.length + 1, fun k hk => by
    have := go l.length k 0 (by omega) (by omega)
    simpa [impl_within.f] using this⟩

/-- the first child of a place, how many there are, and all of them -/
def fc (p i : Int) : Int := if i = 0 then 1 else p + 2 + (i - 1) * p
def cn (p i : Int) : Int := if i = 0 then p + 1 else p
def kids (p i : Int) (n : Nat) : List Int := (List.range n).map fun j : Nat => fc p i + (j : Int)
theorem fc_bd (p i : Int) (hp : p = 2 ∨ p = 3 ∨ p = 5 ∨ p = 7) (h0 : 0 ≤ i) (h1 : i ≤ 5000) : i < fc p i ∧ 1 ≤ fc p i ∧ fc p i ≤ 40000 ∧ 2 ≤ cn p i ∧ cn p i ≤ 8 ∧ fc p i + cn p i = p * i + p + 2 := by
  unfold fc cn
  rcases hp with rfl | rfl | rfl | rfl <;> split <;> omega
theorem kids_succ (p i : Int) (n : Nat) : kids p i (n + 1) = kids p i n ++ [fc p i + (n : Int)] := by
  unfold kids; rw [List.range_succ, List.map_append]; rfl
theorem kids_length (p i : Int) (n : Nat) : (kids p i n).length = n := by simp [kids]
theorem kids_rd (p i : Int) (n j : Nat) (h : j < n) : rd (kids p i n) (j : Int) = fc p i + (j : Int) := by
  have := rd_nat (kids p i n) j (by rw [kids_length]; exact h)
  simp only [kids, List.getElem?_map] at this
  rw [List.getElem?_range h] at this
  exact (Option.some.inj this).symm

/-- a sum of so many values from a place on -/
def sumC (f : List Int) (a : Int) : Nat → Int → Int
  | 0, s => s
  | n + 1, s => sumC f (a + 1) n (wrap64 (s + rd f a))
theorem place_bd (p i : Int) (hp : p = 2 ∨ p = 3 ∨ p = 5 ∨ p = 7) (h0 : 1 ≤ i) (h1 : i ≤ 5000) : 0 ≤ (if i ≤ p + 1 then 0 else (i - p - 2) / p + 1) ∧ (if i ≤ p + 1 then 0 else (i - p - 2) / p + 1) < i := by
  rcases hp with rfl | rfl | rfl | rfl <;> split <;> omega

theorem all_drop {α : Type} (P : α → Bool) (l : List α) (i : Nat) (h : i < l.length) : (l.drop i).all P = (P (l[i]'h) && (l.drop (i + 1)).all P) := by
  rw [List.drop_eq_getElem_cons h]; rfl
theorem prDef (p : Int) : PM.Pr p = (p = 2 ∨ p = 3 ∨ p = 5 ∨ p = 7) := rfl
theorem tmod_zero_iff (n p : Int) : n.tmod p = 0 ↔ p ∣ n := Int.dvd_iff_tmod_eq_zero.symm

theorem pw_bd (p k : Int) (hp : Pr p) (h : k ≤ 20) : 1 ≤ pw p k ∧ pw p k ≤ 79792266297612001 := by
  have h1 := pw_pos2 hp k
  have h2 := pw_le hp h
  have h3 : pw p 20 ≤ 79792266297612001 := by
    rcases hp with rfl | rfl | rfl | rfl <;> decide +kernel
  omega
theorem pw_bd12 (p k : Int) (hp : Pr p) (h : k ≤ 12) : 1 ≤ pw p k ∧ pw p k ≤ 13841287201 := by
  have h1 := pw_pos2 hp k
  have h2 := pw_le hp h
  have h3 : pw p 12 ≤ 13841287201 := by
    rcases hp with rfl | rfl | rfl | rfl <;> decide +kernel
  omega
theorem pw_bd6 (p k : Int) (hp : Pr p) (h : k ≤ 6) : 1 ≤ pw p k ∧ pw p k ≤ 117649 := by
  have h1 := pw_pos2 hp k
  have h2 := pw_le hp h
  have h3 : pw p 6 ≤ 117649 := by
    rcases hp with rfl | rfl | rfl | rfl <;> decide +kernel
  omega
theorem pw_succ (p k : Int) (h : 0 ≤ k) : pw p (k + 1) = pw p k * p := by
  rw [pw_add h (by omega), pw_one]

theorem l01Power_eq (p n : Int) (hp : Pr p) (h : n ≤ 20) (h0 : -9223372036854775808 ≤ n) : ∀ k, 30 ≤ k → spec_l01Power.f k p n = some (pw p n) := by
  have hp2 := hp.pos
  have go : ∀ (d k : Nat) (n out j : Int), n = d → 0 ≤ j → j + d ≤ 20 → d < k → out = pw p j → spec_l01Power.l0 k p n out = some (pw p (j + d)) := by
    intro d
    induction d with
    | zero =>
      intro k n out j hn hj hs hk ho
      obtain ⟨k, rfl⟩ : ∃ m, k = m + 1 := ⟨k - 1, by omega⟩
      simp only [spec_l01Power.l0]
      rw [if_neg (by omega), ho]; simp
    | succ d ih =>
      intro k n out j hn hj hs hk ho
      obtain ⟨k, rfl⟩ : ∃ m, k = m + 1 := ⟨k - 1, by omega⟩
      simp only [spec_l01Power.l0]
      have hb := pw_bd p (j + 1) hp (by omega)
      have hs1 := pw_succ p j hj
      rw [if_pos (by omega), w64 (n := n - 1) (by omega) (by omega), ho, ← hs1, w64 (by omega) (by omega), ih k (n - 1) _ (j + 1) (by omega) (by omega) (by omega) (by omega) rfl]
      congr 2; omega
  intro k hk
  unfold spec_l01Power.f
  by_cases h1 : n ≤ 0
  · obtain ⟨k, rfl⟩ : ∃ m, k = m + 1 := ⟨k - 1, by omega⟩
    simp only [spec_l01Power.l0]
    rw [if_neg (by omega)]
    simp [pw, show n.toNat = 0 by omega]
  · rw [go n.toNat k n 1 0 (by omega) (by omega) (by omega) (by omega) (by simp [pw])]
    congr 2; omega

theorem mx_neg (a : Int) (h : a.natAbs ≤ 9223372036854775807) : mx a (wrap64 (-a)) = (a.natAbs : Int) := by
  rw [w64 (by omega) (by omega)]; unfold mx; split <;> omega
theorem gcd_tmod (a b : Int) : Int.gcd b (a.tmod b) = Int.gcd a b := by
  have h := Int.gcd_add_mul_left_right b (a.tmod b) (a.tdiv b)
  rw [Int.tmod_add_mul_tdiv] at h
  rw [Int.gcd_comm a b]; exact h.symm

theorem l01Gcd_eq (a b : Int) (ha : a.natAbs ≤ 9223372036854775807) (hb : b.natAbs ≤ 9223372036854775807) : ∃ K, ∀ k, K ≤ k → spec_l01Gcd.f k a b = some (Int.gcd a b : Int) := by
  have go : ∀ (d k : Nat) (a b : Int), a.natAbs ≤ 9223372036854775807 → b.natAbs ≤ 9223372036854775807 → b.natAbs ≤ d → d < k → spec_l01Gcd.l0 k a b = some (Int.gcd a b : Int) := by
    intro d
    induction d with
    | zero =>
      intro k a b ha hb0 hb hk
      obtain ⟨k, rfl⟩ : ∃ m, k = m + 1 := ⟨k - 1, by omega⟩
      obtain rfl : b = 0 := by omega
      simp only [spec_l01Gcd.l0]
      rw [if_pos trivial, mx_neg a ha, Int.gcd_zero_right]
    | succ d ih =>
      intro k a b ha hb0 hb hk
      obtain ⟨k, rfl⟩ : ∃ m, k = m + 1 := ⟨k - 1, by omega⟩
      simp only [spec_l01Gcd.l0]
      by_cases h : b = 0
      · rw [if_pos h, mx_neg a ha, h, Int.gcd_zero_right]
      · rw [if_neg h, ih k b (a.tmod b) hb0 (by
          have : (a.tmod b).natAbs < b.natAbs := by rw [Int.natAbs_tmod]; exact Nat.mod_lt _ (by omega)
          omega) (by
          have : (a.tmod b).natAbs < b.natAbs := by rw [Int.natAbs_tmod]; exact Nat.mod_lt _ (by omega)
          omega) (by omega), gcd_tmod]
  exact ⟨b.natAbs + 1, fun k hk => by unfold spec_l01Gcd.f; exact go b.natAbs k a b ha hb (Nat.le_refl _) (by omega)⟩

theorem gcd_eq (a b : Int) (ha : a.natAbs ≤ 9223372036854775807) (hb : b.natAbs ≤ 9223372036854775807) : ∃ K, ∀ k, K ≤ k → impl_gcd.f k a b = some (Int.gcd a b : Int) := by
  have go : ∀ (d k : Nat) (a b : Int), a.natAbs ≤ 9223372036854775807 → b.natAbs ≤ 9223372036854775807 → b.natAbs ≤ d → d < k → impl_gcd.l0 k a b = some (Int.gcd a b : Int) := by
    intro d
    induction d with
    | zero =>
      intro k a b ha hb0 hb hk
      obtain ⟨k, rfl⟩ : ∃ m, k = m + 1 := ⟨k - 1, by omega⟩
      obtain rfl : b = 0 := by omega
      simp only [impl_gcd.l0]
      rw [if_pos trivial, mx_neg a ha, Int.gcd_zero_right]
    | succ d ih =>
      intro k a b ha hb0 hb hk
      obtain ⟨k, rfl⟩ : ∃ m, k = m + 1 := ⟨k - 1, by omega⟩
      simp only [impl_gcd.l0]
      by_cases h : b = 0
      · rw [if_pos h, mx_neg a ha, h, Int.gcd_zero_right]
      · rw [if_neg h, ih k b (a.tmod b) hb0 (by
          have : (a.tmod b).natAbs < b.natAbs := by rw [Int.natAbs_tmod]; exact Nat.mod_lt _ (by omega)
          omega) (by
          have : (a.tmod b).natAbs < b.natAbs := by rw [Int.natAbs_tmod]; exact Nat.mod_lt _ (by omega)
          omega) (by omega), gcd_tmod]
  exact ⟨b.natAbs + 1, fun k hk => by unfold impl_gcd.f; exact go b.natAbs k a b ha hb (Nat.le_refl _) (by omega)⟩

theorem l01End_eq (n d : Int) : ∃ K, ∀ k, K ≤ k → spec_l01End.f k n d = some (decide (isE n d)) := by
  by_cases h0 : d = 0
  · refine ⟨0, fun k _ => ?_⟩
    unfold spec_l01End.f
    rw [if_pos h0]
    congr 1
    by_cases h : n = 1
    · simp [h, h0, isE]
    · simp [h, h0, isE]
  · by_cases h1 : 1 ≤ d ∧ d ≤ 1000000
    · by_cases h2 : -1000000 ≤ n ∧ n ≤ 1000000
      · obtain ⟨K, hK⟩ := l01Gcd_eq n d (by omega) (by omega)
        refine ⟨K, fun k hk => ?_⟩
        unfold spec_l01End.f
        rw [if_neg h0, in_eq, in_eq, hK k hk, decide_eq_true h1, decide_eq_true h2]
        simp only [Option.bind_some, if_true]
        congr 1
        rw [Bool.eq_iff_iff]
        simp [isE, h0, h1, h2]
        omega
      · refine ⟨0, fun k _ => ?_⟩
        unfold spec_l01End.f
        rw [if_neg h0, in_eq, in_eq, decide_eq_true h1, decide_eq_false h2]
        simp only [Option.bind_some, if_true]
        rw [if_neg (by simp), decide_eq_false]
        unfold isE; omega
    · refine ⟨0, fun k _ => ?_⟩
      unfold spec_l01End.f
      rw [if_neg h0, in_eq, decide_eq_false h1]
      simp only [Option.bind_some]
      rw [if_neg (by simp), decide_eq_false]
      unfold isE; omega

theorem IsEnd_eq (n d : Int) : ∃ K, ∀ k, K ≤ k → impl_IsEnd.f k n d = some (decide (isE n d)) := by
  by_cases h0 : d = 0
  · refine ⟨0, fun k _ => ?_⟩
    unfold impl_IsEnd.f
    rw [if_pos h0]
    congr 1
    by_cases h : n = 1
    · simp [h, h0, isE]
    · simp [h, h0, isE]
  · obtain ⟨K1, hw⟩ := within_eq 1000000 (by omega) (by omega) [n, d] (by simp)
    have ew : allB 1000000 [n, d] = decide ((-1000000 ≤ n ∧ n ≤ 1000000) ∧ -1000000 ≤ d ∧ d ≤ 1000000) := by simp [allB]
    rw [ew] at hw
    by_cases h1 : (-1000000 ≤ n ∧ n ≤ 1000000) ∧ -1000000 ≤ d ∧ d ≤ 1000000
    · obtain ⟨K2, hK⟩ := gcd_eq n d (by omega) (by omega)
      refine ⟨K1 + K2, fun k hk => ?_⟩
      unfold impl_IsEnd.f
      rw [if_neg h0, hw k (by omega), decide_eq_true h1, hK k (by omega)]
      simp only [Option.bind_some, if_true]
      by_cases h2 : d > 0
      · rw [if_pos h2]
        congr 1
        rw [Bool.eq_iff_iff]
        simp [isE, h0, h1]
        omega
      · rw [if_neg h2, decide_eq_false]
        unfold isE; omega
    · refine ⟨K1, fun k hk => ?_⟩
      unfold impl_IsEnd.f
      rw [if_neg h0, hw k (by omega), decide_eq_false h1]
      simp only [Option.bind_some]
      rw [if_neg (by simp), decide_eq_false]
      unfold isE; omega

def eOk (x : S24) : Bool := decide (isE x.f0 x.f1)
theorem rdE (l : List S24) (i : Nat) (h : i < l.length) : rd_T24 l (i : Int) = l[i]'h := by
  unfold rd_T24; simp [List.getD_eq_getElem?_getD, h]
/-- an end is none of those ahead of it -/
def difAt (l : List S24) (i : Nat) : Bool := (l.take i).all fun x => !(x.f0 == (rd_T24 l i).f0 && x.f1 == (rd_T24 l i).f1)
def difFrom (l : List S24) : Nat → Nat → Bool
  | 0, _ => true
  | d + 1, i => difAt l i && difFrom l d (i + 1)
def dif (l : List S24) : Bool := difFrom l l.length 0

theorem areEnds_eq (l : List S24) (hl : l.length ≤ 1000) : ∃ K, ∀ k, K ≤ k → impl_areEnds.f k l = some (l.all eOk) := by
  have go : ∀ (d i : Nat), i + d = l.length → ∃ K, ∀ k, K ≤ k → impl_areEnds.l0 k l l.length i = some ((l.drop i).all eOk) := by
    intro d
    induction d with
    | zero =>
      intro i hi
      refine ⟨1, fun k hk => ?_⟩
      obtain ⟨k, rfl⟩ : ∃ m, k = m + 1 := ⟨k - 1, by omega⟩
      simp only [impl_areEnds.l0]
      rw [if_neg (by omega), List.drop_eq_nil_of_le (by omega)]; rfl
    | succ d ih =>
      intro i hi
      obtain ⟨K1, h1⟩ := ih (i + 1) (by omega)
      obtain ⟨K2, h2⟩ := IsEnd_eq (l[i]'(by omega)).f0 (l[i]'(by omega)).f1
      refine ⟨K1 + K2 + 1, fun k hk => ?_⟩
      obtain ⟨k, rfl⟩ : ∃ m, k = m + 1 := ⟨k - 1, by omega⟩
      simp only [impl_areEnds.l0]
      rw [if_pos (by omega), if_pos (by omega), if_pos (by omega), rdE l i (by omega), h2 k (by omega), all_drop eOk l i (by omega), w64 (by omega) (by omega), show ((i : Int) + 1) = ((i + 1 : Nat) : Int) from by omega, h1 k (by omega)]
      simp only [Option.bind_some]
      show _ = some (decide (isE _ _) && _)
      by_cases h : isE (l[i]'(by omega)).f0 (l[i]'(by omega)).f1
      · rw [decide_eq_true h]; simp
      · rw [decide_eq_false h]; simp
  obtain ⟨K, h⟩ := go l.length 0 (by omega)
  exact ⟨K, fun k hk => by have := h k hk; simpa [impl_areEnds.f] using this⟩

theorem l05Different_eq (l : List S24) (hl : l.length ≤ 1000) : ∃ K, ∀ k, K ≤ k → spec_l05Different.f k l = some (dif l) := by
  have l1 : ∀ (d k i j : Nat), j + d = i → i < l.length → spec_l05Different.l1 (k + d + 1) l i j = if ((l.take i).drop j).all (fun x => !(x.f0 == (rd_T24 l i).f0 && x.f1 == (rd_T24 l i).f1)) = true then spec_l05Different.l0 k l ((i + 1 : Nat) : Int) else some false := by
    intro d
    induction d with
    | zero =>
      intro k i j hj hi
      simp only [spec_l05Different.l1]
      rw [if_neg (by omega), List.drop_eq_nil_of_le (by simp; omega), w64 (by omega) (by omega)]; rfl
    | succ d ih =>
      intro k i j hj hi
      have hlt : j < (l.take i).length := by simp; omega
      rw [show k + (d + 1) + 1 = (k + d + 1) + 1 from rfl, spec_l05Different.l1, all_drop _ _ j hlt]
      rw [if_pos (by omega), if_pos (by omega), if_pos (by omega), if_pos (by omega), if_pos (by omega), w64 (by omega) (by omega)]
      have := ih k i (j + 1) (by omega) hi
      rw [show ((j : Int) + 1) = ((j + 1 : Nat) : Int) from by omega, this, rdE l j (by omega)]
      have e : (l.take i)[j]'hlt = l[j]'(by omega) := List.getElem_take
      rw [e]
      by_cases h : ((rd_T24 l i).f0 == (l[j]'(by omega)).f0 && ((rd_T24 l i).f1 == (l[j]'(by omega)).f1)) = true
      · rw [if_pos h]
        have h' : ((l[j]'(by omega)).f0 == (rd_T24 l i).f0 && ((l[j]'(by omega)).f1 == (rd_T24 l i).f1)) = true := by
          simp only [Bool.and_eq_true, beq_iff_eq] at h ⊢; exact ⟨h.1.symm, h.2.symm⟩
        rw [h']; simp
      · rw [if_neg h]
        have h' : ((l[j]'(by omega)).f0 == (rd_T24 l i).f0 && ((l[j]'(by omega)).f1 == (rd_T24 l i).f1)) = false := by
          rw [Bool.eq_false_iff]; intro h2; apply h
          simp only [Bool.and_eq_true, beq_iff_eq] at h2 ⊢; exact ⟨h2.1.symm, h2.2.symm⟩
        rw [h']; simp
  have l0 : ∀ (d i k : Nat), i + d = l.length → (l.length + 3) * d + 2 ≤ k → spec_l05Different.l0 k l i = some (difFrom l d i) := by
    intro d
    induction d with
    | zero =>
      intro i k hi hk
      obtain ⟨k, rfl⟩ : ∃ m, k = m + 1 := ⟨k - 1, by omega⟩
      simp only [spec_l05Different.l0]
      rw [if_neg (by omega)]; rfl
    | succ d ih =>
      intro i k hi hk
      rw [Nat.mul_succ] at hk
      obtain ⟨k, rfl⟩ : ∃ m, k = (m + i + 1) + 1 := ⟨k - i - 2, by omega⟩
      simp only [spec_l05Different.l0]
      rw [if_pos (by omega)]
      have := l1 i k i 0 (by omega) (by omega)
      rw [show ((0 : Nat) : Int) = 0 from rfl, List.drop_zero] at this
      rw [this]
      simp only [difFrom]
      unfold difAt
      split
      · rename_i h; rw [h, ih (i + 1) k (by omega) (by omega)]; rfl
      · rename_i h; rw [Bool.eq_false_iff.mpr h]; rfl
  exact ⟨(l.length + 3) * l.length + 2, fun k hk => by
    have := l0 l.length 0 k (by omega) hk
    simpa [spec_l05Different.f, dif] using this⟩

theorem l05Code_l0 (l : List S24) (hl : l.length ≤ 1000) : ∃ K, ∀ k, K ≤ k → spec_l05Code.l0 k l 0 = some (if l.all eOk = true then (if dif l = true then 0 else 5) else 1) := by
  obtain ⟨K0, h0⟩ := l05Different_eq l hl
  have go : ∀ (d i : Nat), i + d = l.length → ∃ K, ∀ k, K ≤ k → spec_l05Code.l0 k l i = some (if (l.drop i).all eOk = true then (if dif l = true then 0 else 5) else 1) := by
    intro d
    induction d with
    | zero =>
      intro i hi
      refine ⟨K0 + 1, fun k hk => ?_⟩
      obtain ⟨k, rfl⟩ : ∃ m, k = m + 1 := ⟨k - 1, by omega⟩
      simp only [spec_l05Code.l0]
      rw [if_neg (by omega), List.drop_eq_nil_of_le (by omega), h0 k (by omega)]
      simp only [Option.bind_some, List.all_nil, if_true]
      split <;> rfl
    | succ d ih =>
      intro i hi
      obtain ⟨K1, h1⟩ := ih (i + 1) (by omega)
      obtain ⟨K2, h2⟩ := l01End_eq (l[i]'(by omega)).f0 (l[i]'(by omega)).f1
      refine ⟨K1 + K2 + 1, fun k hk => ?_⟩
      obtain ⟨k, rfl⟩ : ∃ m, k = m + 1 := ⟨k - 1, by omega⟩
      simp only [spec_l05Code.l0]
      rw [if_pos (by omega), if_pos (by omega), rdE l i (by omega), h2 k (by omega), all_drop eOk l i (by omega), w64 (by omega) (by omega), show ((i : Int) + 1) = ((i + 1 : Nat) : Int) from by omega, h1 k (by omega)]
      simp only [Option.bind_some]
      show _ = some (if (decide (isE _ _) && _) = true then _ else _)
      by_cases h : isE (l[i]'(by omega)).f0 (l[i]'(by omega)).f1
      · rw [decide_eq_true h]; simp
      · rw [decide_eq_false h]; simp
  obtain ⟨K, h⟩ := go l.length 0 (by omega)
  exact ⟨K, fun k hk => by have := h k hk; simpa using this⟩

theorem isE_bd {n d : Int} (h : isE n d) : -1000000 ≤ n ∧ n ≤ 1000000 ∧ 0 ≤ d ∧ d ≤ 1000000 := by unfold isE at h; omega
theorem mul_bd {a b : Int} (h1 : -1000000 ≤ a) (h2 : a ≤ 1000000) (h3 : -1000000 ≤ b) (h4 : b ≤ 1000000) : -1000000000000 ≤ a * b ∧ a * b ≤ 1000000000000 := by
  have h : (a * b).natAbs ≤ 1000000 * 1000000 := by rw [Int.natAbs_mul]; exact Nat.mul_le_mul (by omega) (by omega)
  omega
def crs (n1 d1 n2 d2 : Int) : Int := n1 * d2 - n2 * d1
theorem crs_bd {n1 d1 n2 d2 : Int} (h1 : isE n1 d1) (h2 : isE n2 d2) : (crs n1 d1 n2 d2).natAbs ≤ 2000000000000 := by
  have a := isE_bd h1; have b := isE_bd h2
  have c := mul_bd (a := n1) (b := d2) (by omega) (by omega) (by omega) (by omega)
  have d := mul_bd (a := n2) (b := d1) (by omega) (by omega) (by omega) (by omega)
  unfold crs; omega
/-- two ends are the same if their cross is 0 -/
theorem crs_zero {n1 d1 n2 d2 : Int} (h1 : isE n1 d1) (h2 : isE n2 d2) (h : crs n1 d1 n2 d2 = 0) : n1 = n2 ∧ d1 = d2 := by
  unfold crs at h
  rcases h1 with ⟨a1, a2⟩ | ⟨a1, a2, a3, a4, a5⟩
  · rcases h2 with ⟨b1, b2⟩ | ⟨b1, b2, b3, b4, b5⟩
    · omega
    · subst a1 a2; simp at h; omega
  · rcases h2 with ⟨b1, b2⟩ | ⟨b1, b2, b3, b4, b5⟩
    · subst b1 b2; simp at h; omega
    · have e : n1 * d2 = n2 * d1 := by omega
      have e1 : d1 ∣ d2 := PM.dvd_of_dvd_mul_right_of_gcd_one (a := d1) (b := n1) (c := d2) ⟨n2, by rw [e, Int.mul_comm]⟩ (by rw [Int.gcd_comm]; exact a5)
      have e2 : d2 ∣ d1 := PM.dvd_of_dvd_mul_right_of_gcd_one (a := d2) (b := n2) (c := d1) ⟨n1, by rw [← e, Int.mul_comm]⟩ (by rw [Int.gcd_comm]; exact b5)
      have e3 : d1 = d2 := Int.dvd_antisymm (by omega) (by omega) e1 e2
      subst e3
      exact ⟨Int.eq_of_mul_eq_mul_right (by omega) e, rfl⟩

theorem l05Cross_eq {n1 d1 n2 d2 : Int} (h1 : isE n1 d1) (h2 : isE n2 d2) : spec_l05Cross.f n1 d1 n2 d2 = some (crs n1 d1 n2 d2) := by
  have a := isE_bd h1; have b := isE_bd h2
  have c := mul_bd (a := n1) (b := d2) (by omega) (by omega) (by omega) (by omega)
  have d := mul_bd (a := n2) (b := d1) (by omega) (by omega) (by omega) (by omega)
  unfold spec_l05Cross.f crs
  rw [w64 (n := n1 * d2) (by omega) (by omega), w64 (n := n2 * d1) (by omega) (by omega), w64 (by omega) (by omega)]

theorem cross_eq {n1 d1 n2 d2 : Int} (h1 : isE n1 d1) (h2 : isE n2 d2) : impl_cross.f n1 d1 n2 d2 = some (crs n1 d1 n2 d2) := by
  have a := isE_bd h1; have b := isE_bd h2
  have c := mul_bd (a := n1) (b := d2) (by omega) (by omega) (by omega) (by omega)
  have d := mul_bd (a := n2) (b := d1) (by omega) (by omega) (by omega) (by omega)
  unfold impl_cross.f crs
  rw [w64 (n := n1 * d2) (by omega) (by omega), w64 (n := n2 * d1) (by omega) (by omega), w64 (by omega) (by omega)]

def gapz (p n1 d1 n2 d2 : Int) : Int := (vl p (crs n1 d1 n2 d2) : Int) - vl p d1 - vl p d2

theorem okSplit (p : Int) (lv top dn : Int) : PM.Ok p ⟨lv, top, dn⟩ ↔ (-6 ≤ lv ∧ lv ≤ 6 ∧ 0 ≤ dn ∧ dn ≤ 6) ∧ ((lv + dn ≤ 0 ∧ top = 0 ∧ dn = 0) ∨ (0 < lv + dn ∧ 0 ≤ top ∧ top < pw p (lv + dn) ∧ (dn = 0 ∨ ¬ p ∣ top))) := by
  unfold PM.Ok; simp only; constructor
  · intro ⟨a, b, c, d, e⟩; exact ⟨⟨a, b, c, d⟩, e⟩
  · intro ⟨⟨a, b, c, d⟩, e⟩; exact ⟨a, b, c, d, e⟩
theorem l01Is_eq (p lv top dn : Int) : ∀ k, 32 ≤ k → spec_l01Is.f k p lv top dn = some (decide (Pr p ∧ PM.Ok p ⟨lv, top, dn⟩)) := by
  intro k hk
  obtain ⟨k, rfl⟩ : ∃ m, k = m + 1 := ⟨k - 1, by omega⟩
  have jt : spec_l01Is.j0 (k + 1) p true lv top dn = some false := by simp [spec_l01Is.j0]
  unfold spec_l01Is.f
  rcases prime_cases p with ⟨h, hp⟩ | ⟨h, hp⟩
  · have hp : Pr p := hp
    rw [h, in_eq, in_eq]
    simp only [Option.bind_some, if_true]
    by_cases h1 : -6 ≤ lv ∧ lv ≤ 6
    · rw [decide_eq_true h1, if_pos rfl]
      by_cases h2 : 0 ≤ dn ∧ dn ≤ 6
      · rw [decide_eq_true h2]
        simp only [Bool.not_true, spec_l01Is.j0]
        rw [if_neg (by simp), w64 (by omega) (by omega)]
        by_cases h3 : lv + dn ≤ 0
        · rw [if_pos h3]
          by_cases h4 : top = 0
          · rw [if_pos h4]
            congr 1; rw [Bool.eq_iff_iff]
            simp only [decide_eq_true_eq, okSplit, beq_iff_eq]
            constructor
            · intro h5; exact ⟨hp, ⟨by omega, Or.inl ⟨h3, h4, h5⟩⟩⟩
            · intro ⟨_, _, h5⟩; omega
          · rw [if_neg h4, decide_eq_false]
            rw [okSplit]; intro ⟨_, _, h5⟩; omega
        · rw [if_neg h3, l01Power_eq p _ hp (by omega) (by omega) k (by omega)]
          have hb := pw_bd12 p (lv + dn) hp (by omega)
          simp only [Option.bind_some]
          rw [in_eq, w64 (by omega) (by omega)]
          simp only [Option.bind_some]
          by_cases h4 : 0 ≤ top ∧ top ≤ pw p (lv + dn) - 1
          · rw [decide_eq_true h4, if_pos rfl]
            by_cases h5 : dn = 0
            · rw [if_pos h5, decide_eq_true]
              rw [okSplit]; exact ⟨hp, by omega, Or.inr ⟨by omega, by omega, by omega, Or.inl h5⟩⟩
            · have hp2 := hp.pos
              rw [if_neg h5, if_neg (by omega)]
              congr 1; rw [Bool.eq_iff_iff]
              simp only [decide_eq_true_eq, okSplit, bne_iff_ne, ne_eq, tmod_zero_iff]
              constructor
              · intro h6; exact ⟨hp, by omega, Or.inr ⟨by omega, by omega, by omega, Or.inr h6⟩⟩
              · intro ⟨_, _, h6⟩ h7
                rcases h6 with h6 | ⟨_, _, _, h6⟩
                · omega
                · rcases h6 with h6 | h6
                  · exact h5 h6
                  · exact h6 h7
          · rw [decide_eq_false h4, if_neg (by simp), decide_eq_false]
            rw [okSplit]; intro ⟨_, _, h5⟩; omega
      · rw [decide_eq_false h2, Bool.not_false, jt, decide_eq_false]
        rw [okSplit]; intro ⟨_, h5, _⟩; omega
    · rw [decide_eq_false h1, if_neg (by simp), jt, decide_eq_false]
      rw [okSplit]; intro ⟨_, h5, _⟩; omega
  · rw [h]
    simp only [Option.bind_some]
    rw [if_neg (by simp), jt, decide_eq_false]
    intro ⟨h1, _⟩; exact hp h1

def bOk (p : Int) (x : S47) : Bool := decide (PM.Ok p ⟨x.f0, x.f1, x.f2⟩)
theorem rdB (l : List S47) (i : Nat) (h : i < l.length) : rd_T47 l (i : Int) = l[i]'h := by
  unfold rd_T47; simp [List.getD_eq_getElem?_getD, h]

theorem l01Code_eq (p : Int) (l : List S47) (hl : l.length ≤ 1000) : ∃ K, ∀ k, K ≤ k → spec_l01Code.f k p l = some (if Pr p ∧ l.all (bOk p) = true then 0 else 1) := by
  rcases prime_cases p with ⟨h, hp⟩ | ⟨h, hp⟩
  · have hp : Pr p := hp
    have go : ∀ (d i k : Nat), i + d = l.length → d + 34 ≤ k → spec_l01Code.l0 k p l i = some (if (l.drop i).all (bOk p) = true then 0 else 1) := by
      intro d
      induction d with
      | zero =>
        intro i k hi hk
        obtain ⟨k, rfl⟩ : ∃ m, k = m + 1 := ⟨k - 1, by omega⟩
        simp only [spec_l01Code.l0]
        rw [if_neg (by omega), List.drop_eq_nil_of_le (by omega)]; rfl
      | succ d ih =>
        intro i k hi hk
        obtain ⟨k, rfl⟩ : ∃ m, k = m + 1 := ⟨k - 1, by omega⟩
        simp only [spec_l01Code.l0]
        rw [if_pos (by omega), if_pos (by omega), rdB l i (by omega), l01Is_eq _ _ _ _ k (by omega), all_drop (bOk p) l i (by omega), w64 (by omega) (by omega), show ((i : Int) + 1) = ((i + 1 : Nat) : Int) from by omega, ih (i + 1) k (by omega) (by omega)]
        simp only [Option.bind_some]
        show _ = some (if (decide (PM.Ok _ _) && _) = true then _ else _)
        by_cases h : PM.Ok p ⟨(l[i]'(by omega)).f0, (l[i]'(by omega)).f1, (l[i]'(by omega)).f2⟩
        · rw [decide_eq_true h, decide_eq_true ⟨hp, h⟩]; simp
        · rw [decide_eq_false h, decide_eq_false (fun g => h g.2)]; simp
    refine ⟨l.length + 34, fun k hk => ?_⟩
    unfold spec_l01Code.f
    rw [h]
    simp only [Option.bind_some, if_true]
    have := go l.length 0 k (by omega) (by omega)
    rw [show ((0 : Nat) : Int) = 0 from rfl, List.drop_zero] at this
    rw [this]
    by_cases g : l.all (bOk p) = true
    · rw [if_pos g, if_pos ⟨hp, g⟩]
    · rw [if_neg g, if_neg (fun z => g z.2)]
  · refine ⟨0, fun k _ => ?_⟩
    unfold spec_l01Code.f
    rw [h]
    simp only [Option.bind_some]
    rw [if_neg (by simp), if_neg (fun z => hp z.1)]

theorem l05Code_eq (p : Int) (l : List S47) (m : List S24) (hl : l.length ≤ 1000) (hm : m.length ≤ 1000) : ∃ K, ∀ k, K ≤ k → spec_l05Code.f k p l m = some (if (Pr p ∧ l.all (bOk p) = true) ∧ m.all eOk = true then (if dif m = true then 0 else 5) else 1) := by
  obtain ⟨K1, h1⟩ := l01Code_eq p l hl
  obtain ⟨K2, h2⟩ := l05Code_l0 m hm
  refine ⟨K1 + K2, fun k hk => ?_⟩
  unfold spec_l05Code.f
  rw [h1 k (by omega)]
  simp only [Option.bind_some]
  by_cases c1 : Pr p ∧ l.all (bOk p) = true
  · rw [if_pos c1, if_pos rfl, h2 k (by omega)]
    by_cases c2 : m.all eOk = true
    · rw [if_pos c2, if_pos (show (Pr p ∧ l.all (bOk p) = true) ∧ m.all eOk = true from ⟨c1, c2⟩)]
    · rw [if_neg c2, if_neg (fun z => c2 z.2)]
  · rw [if_neg c1, if_neg (by omega), if_neg (fun z => c1 z.1)]
theorem dif2 (a b c d : Int) : dif [(⟨a, b⟩ : S24), ⟨c, d⟩] = !(decide (a = c ∧ b = d)) := by
  simp [dif, difFrom, difAt, rd_T24]
  by_cases h : a = c <;> by_cases h' : b = d <;> simp [h, h']
theorem all2 (a b c d : Int) : ([(⟨a, b⟩ : S24), ⟨c, d⟩].all eOk = true) ↔ (isE a b ∧ isE c d) := by
  simp [eOk]

theorem contains_eq (l : List S24) (hl : l.length ≤ 1000) (a b : Int) : ∀ k, l.length + 1 ≤ k → impl_End_27.f k l a b = some (!(l.all fun x => !(x.f0 == a && x.f1 == b))) := by
  have go : ∀ (d k i : Nat), i + d = l.length → d < k → ∃ r, impl_End_29.l0 k l l.length i a b = some r ∧ -1 ≤ r ∧ (r ≥ 0 ↔ ¬ ((l.drop i).all fun x => !(x.f0 == a && x.f1 == b)) = true) := by
    intro d
    induction d with
    | zero =>
      intro k i hi hk
      obtain ⟨k, rfl⟩ : ∃ m, k = m + 1 := ⟨k - 1, by omega⟩
      refine ⟨-1, ?_, by omega, ?_⟩
      · simp only [impl_End_29.l0]
        rw [if_neg (by omega)]
      · rw [List.drop_eq_nil_of_le (by omega)]; simp
    | succ d ih =>
      intro k i hi hk
      obtain ⟨k, rfl⟩ : ∃ m, k = m + 1 := ⟨k - 1, by omega⟩
      rw [all_drop _ l i (by omega)]
      by_cases h : (a == (l[i]'(by omega)).f0 && (b == (l[i]'(by omega)).f1)) = true
      · refine ⟨i, ?_, by omega, ?_⟩
        · simp only [impl_End_29.l0]
          rw [if_pos (by omega), if_pos (by omega), if_pos (by omega), rdE l i (by omega), if_pos h]
        · have h' : ((l[i]'(by omega)).f0 == a && ((l[i]'(by omega)).f1 == b)) = true := by
            simp only [Bool.and_eq_true, beq_iff_eq] at h ⊢; exact ⟨h.1.symm, h.2.symm⟩
          rw [h']; simp
      · obtain ⟨r, h1, h2, h3⟩ := ih k (i + 1) (by omega) (by omega)
        refine ⟨r, ?_, h2, ?_⟩
        · simp only [impl_End_29.l0]
          rw [if_pos (by omega), if_pos (by omega), if_pos (by omega), rdE l i (by omega), if_neg h, w64 (by omega) (by omega), show ((i : Int) + 1) = ((i + 1 : Nat) : Int) from by omega]
          exact h1
        · have h' : ((l[i]'(by omega)).f0 == a && ((l[i]'(by omega)).f1 == b)) = false := by
            rw [Bool.eq_false_iff]; intro h2; apply h
            simp only [Bool.and_eq_true, beq_iff_eq] at h2 ⊢; exact ⟨h2.1.symm, h2.2.symm⟩
          rw [h', h3]; simp
  intro k hk
  obtain ⟨r, h1, h2, h3⟩ := go l.length k 0 (by omega) (by omega)
  unfold impl_End_27.f impl_End_29.f
  rw [show ((0 : Nat) : Int) = 0 from rfl] at h1
  rw [h1]
  simp only [Option.bind_some]
  rw [List.drop_zero] at h3
  congr 1
  by_cases c : r ≥ 0
  · rw [decide_eq_true c, Bool.eq_false_iff.mpr (h3.1 c)]; rfl
  · rw [decide_eq_false c, Decidable.not_not.1 (fun h => c (h3.2 h))]; rfl
theorem areDifferent_eq (l : List S24) (hl : l.length ≤ 1000) : ∃ K, ∀ k, K ≤ k → impl_areDifferent.f k l = some (dif l) := by
  have go : ∀ (d k i : Nat), i + d = l.length → l.length + 2 + d ≤ k → impl_areDifferent.l0 k l l l.length i = some (difFrom l d i) := by
    intro d
    induction d with
    | zero =>
      intro k i hi hk
      obtain ⟨k, rfl⟩ : ∃ m, k = m + 1 := ⟨k - 1, by omega⟩
      simp only [impl_areDifferent.l0]
      rw [if_neg (by omega)]; rfl
    | succ d ih =>
      intro k i hi hk
      obtain ⟨k, rfl⟩ : ∃ m, k = m + 1 := ⟨k - 1, by omega⟩
      simp only [impl_areDifferent.l0]
      rw [if_pos (by omega), if_pos (by omega), if_pos (by omega), if_pos (by omega), show ((i : Int).toNat) = i from by omega, contains_eq _ (by simp; omega) _ _ k (by simp; omega), w64 (by omega) (by omega), show ((i : Int) + 1) = ((i + 1 : Nat) : Int) from by omega, ih k (i + 1) (by omega) (by omega)]
      simp only [Option.bind_some, difFrom]
      unfold difAt
      cases ((l.take i).all fun x => !(x.f0 == (rd_T24 l i).f0 && x.f1 == (rd_T24 l i).f1)) <;> simp
  exact ⟨2 * l.length + 4, fun k hk => by
    have := go l.length k 0 (by omega) (by omega)
    simpa [impl_areDifferent.f, dif] using this⟩

theorem mul_bd2 {a b : Int} (A B : Int) (h1 : -A ≤ a) (h2 : a ≤ A) (h3 : -B ≤ b) (h4 : b ≤ B) : -(A * B) ≤ a * b ∧ a * b ≤ A * B := by
  have hA : 0 ≤ A := by omega
  have hB : 0 ≤ B := by omega
  have h : (a * b).natAbs ≤ A.natAbs * B.natAbs := by
    rw [Int.natAbs_mul]; exact Nat.mul_le_mul (by omega) (by omega)
  rw [← Int.natAbs_mul] at h
  have : 0 ≤ A * B := Int.mul_nonneg hA hB
  omega
theorem mn_min (a b : Int) : mn a b = min a b := by unfold mn; split <;> omega
theorem mx_max (a b : Int) : mx a b = max a b := by unfold mx; split <;> omega
theorem okb {p lv top dn : Int} (h : PM.Ok p ⟨lv, top, dn⟩) : -6 ≤ lv ∧ lv ≤ 6 ∧ 0 ≤ dn ∧ dn ≤ 6 ∧ 0 ≤ top := by
  unfold PM.Ok at h; simp only at h; omega
theorem ok_top {p lv top dn : Int} (hp : Pr p) (h : PM.Ok p ⟨lv, top, dn⟩) : 0 ≤ top ∧ top ≤ 13841287201 := by
  have hb := okb h
  have := pw_bd12 p (lv + dn) hp (by omega)
  unfold PM.Ok at h; simp only at h; omega
theorem mark_bd12 {p lv top dn : Int} (hp : Pr p) (h : PM.Ok p ⟨lv, top, dn⟩) : 0 ≤ PM.mark p ⟨lv, top, dn⟩ ∧ PM.mark p ⟨lv, top, dn⟩ ≤ 13841287201 := by
  have hb := okb h
  have := PM.mark_bd hp h
  have := pw_bd12 p (lv + 6) hp (by omega)
  simp only at *; omega

theorem l05Code_line (p lv top dn n1 d1 n2 d2 : Int) : ∃ K, ∀ k, K ≤ k → spec_l05Code.f k p [⟨lv, top, dn⟩] [⟨n1, d1⟩, ⟨n2, d2⟩] = some (if (Pr p ∧ PM.Ok p ⟨lv, top, dn⟩) ∧ isE n1 d1 ∧ isE n2 d2 then (if n1 = n2 ∧ d1 = d2 then 5 else 0) else 1) := by
  obtain ⟨K, h⟩ := l05Code_eq p [⟨lv, top, dn⟩] [⟨n1, d1⟩, ⟨n2, d2⟩] (by simp) (by simp)
  refine ⟨K, fun k hk => ?_⟩
  rw [h k hk, dif2]
  have e : ((Pr p ∧ ([(⟨lv, top, dn⟩ : S47)].all (bOk p) = true)) ∧ [(⟨n1, d1⟩ : S24), ⟨n2, d2⟩].all eOk = true) ↔ ((Pr p ∧ PM.Ok p ⟨lv, top, dn⟩) ∧ isE n1 d1 ∧ isE n2 d2) := by
    rw [all2]; simp [bOk]
  by_cases c : (Pr p ∧ PM.Ok p ⟨lv, top, dn⟩) ∧ isE n1 d1 ∧ isE n2 d2
  · rw [if_pos (e.mpr c), if_pos c]
    by_cases q : n1 = n2 ∧ d1 = d2
    · rw [decide_eq_true q, if_pos q]; rfl
    · rw [decide_eq_false q, if_neg q]; rfl
  · rw [if_neg (fun z => c (e.mp z)), if_neg c]

theorem l01Power_eq2 (p n : Int) (hp : Pr p) (h : n ≤ 62) (h1 : pw p n ≤ 4611686018427387904) (h0 : -9223372036854775808 ≤ n) : ∀ k, 70 ≤ k → spec_l01Power.f k p n = some (pw p n) := by
  have hp2 := hp.pos
  have hle : ∀ j : Int, j ≤ n → 1 ≤ pw p j ∧ pw p j ≤ 4611686018427387904 := fun j hj => by
    have := pw_le hp hj; have := pw_pos2 hp j; omega
  have go : ∀ (d k : Nat) (m out j : Int), m = d → n = j + d → 0 ≤ j → d < k → out = pw p j → spec_l01Power.l0 k p m out = some (pw p n) := by
    intro d
    induction d with
    | zero =>
      intro k m out j hm hn hj hk ho
      obtain ⟨k, rfl⟩ : ∃ m, k = m + 1 := ⟨k - 1, by omega⟩
      simp only [spec_l01Power.l0]
      rw [if_neg (by omega), ho]
      congr 2; omega
    | succ d ih =>
      intro k m out j hm hn hj hk ho
      obtain ⟨k, rfl⟩ : ∃ m, k = m + 1 := ⟨k - 1, by omega⟩
      simp only [spec_l01Power.l0]
      have hb := hle (j + 1) (by omega)
      have hs1 := pw_succ p j hj
      rw [if_pos (by omega), w64 (n := m - 1) (by omega) (by omega), ho, ← hs1, w64 (by omega) (by omega), ih k (m - 1) _ (j + 1) (by omega) (by omega) (by omega) (by omega) rfl]
  intro k hk
  unfold spec_l01Power.f
  by_cases h1 : n ≤ 0
  · obtain ⟨k, rfl⟩ : ∃ m, k = m + 1 := ⟨k - 1, by omega⟩
    simp only [spec_l01Power.l0]
    rw [if_neg (by omega)]
    simp [pw, show n.toNat = 0 by omega]
  · rw [go n.toNat k n 1 0 (by omega) (by omega) (by omega) (by omega) (by simp [pw])]

theorem tmod_fix (a m : Int) (hm : 0 < m) : (a.tmod m + m).tmod m = a % m ∧ -m < a.tmod m ∧ a.tmod m < m := by
  have h1 := Int.tmod_lt_of_pos a hm
  have h2 := Int.lt_tmod_of_pos a hm
  have h3 := Int.mul_tdiv_add_tmod a m
  refine ⟨?_, h2, h1⟩
  rw [Int.tmod_eq_emod_of_nonneg (by omega)]
  rw [show a.tmod m + m = a + m * (1 - a.tdiv m) by rw [Int.mul_sub]; omega, Int.add_mul_emod_self_left]
theorem em_mul (a b m : Int) : (a % m * b) % m = a * b % m := by rw [Int.mul_emod, Int.emod_emod, ← Int.mul_emod]
theorem emb (a m : Int) (hm : 0 < m) : 0 ≤ a % m ∧ a % m < m := ⟨Int.emod_nonneg _ (by omega), Int.emod_lt_of_pos _ hm⟩

theorem vl20 {p n : Int} (hp : Pr p) (h : n ≠ 0) (hb : n.natAbs ≤ 1000000) : vl p n ≤ 19 := by
  have := vl_le hp h (k := 20) (by
    have : (2 : Nat) ^ 20 = 1048576 := by decide
    omega)
  omega
theorem pwvl {p n : Int} (hp : Pr p) (h : n ≠ 0) : 0 < pw p (vl p n) ∧ pw p (vl p n) ≤ (n.natAbs : Int) := by
  refine ⟨pw_pos2 hp _, ?_⟩
  have := Int.le_of_dvd (by omega) (Int.dvd_natAbs.mpr (pw_vl_dvd hp h))
  exact this
theorem un_div {p n : Int} (hp : Pr p) (h : n ≠ 0) : n.tdiv (pw p (vl p n)) = un p n := by
  unfold un; rw [vz_of_ne h, Int.tdiv_eq_ediv_of_dvd (pw_vl_dvd hp h)]
theorem un_bd {p n : Int} (hp : Pr p) (h : n ≠ 0) : (un p n).natAbs ≤ n.natAbs := by
  obtain ⟨e, _⟩ := un_spec hp h
  have h1 := pwvl hp h
  have : n.natAbs = (pw p (vl p n)).natAbs * (un p n).natAbs := by rw [← Int.natAbs_mul, ← e]
  rw [this]
  exact Nat.le_mul_of_pos_left _ (by omega)

def brV (p lv x n d : Int) : Int := if d = 0 ∨ PM.turn p lv x n d < lv then 0 else 1 + (PM.dv p x n d / pw p (lv + 6 + vl p d)) * inv (un p d) p % p
theorem un_mul_pw {p n k : Int} (hp : Pr p) (hn : n ≠ 0) (hk : 0 ≤ k) : un p (pw p k * n) = un p n ∧ (vl p (pw p k * n) : Int) = k + vl p n := by
  have hq := pw_pos2 hp k
  have hv : (vl p (pw p k * n) : Int) = k + vl p n := by
    rw [vl_mul hp (by omega) hn]; have := PM.vl_pw hp k hk; omega
  refine ⟨?_, hv⟩
  unfold un
  rw [vz_of_ne (Int.mul_ne_zero (by omega) hn), hv, vz_of_ne hn, pw_add hk (by omega), Int.mul_ediv_mul_of_pos _ _ hq]
theorem turn_held {p lv x n d : Int} (hd : d ≠ 0) : ¬ PM.turn p lv x n d < lv ↔ (PM.dv p x n d = 0 ∨ lv + 6 + (vl p d : Int) ≤ vl p (PM.dv p x n d)) := by
  unfold PM.turn
  by_cases z : PM.dv p x n d = 0
  · rw [if_pos z]; omega
  · rw [if_neg z]; omega
theorem dv_bd {p x n d : Int} (hp : Pr p) (hx : 0 ≤ x ∧ x ≤ 13841287201) (he : isE n d) : (PM.dv p x n d).natAbs ≤ 15000000000000000 := by
  have hE := isE_bd he
  have h6 := pw_bd6 p 6 hp (by omega)
  have m1 := mul_bd2 (a := n) (b := pw p 6) 1000000 117649 (by omega) (by omega) (by omega) (by omega)
  have m2 := mul_bd2 (a := x) (b := d) 13841287201 1000000 (by omega) (by omega) (by omega) (by omega)
  unfold PM.dv; omega
theorem pwq {p lv d : Int} (hp : Pr p) (hd : d ≠ 0) (hb : d.natAbs ≤ 1000000) (hl : -6 ≤ lv ∧ lv ≤ 6) : 1 ≤ pw p (lv + 6 + vl p d) ∧ pw p (lv + 6 + vl p d) ≤ 13841287201 * 1000000 := by
  have h1 := pwvl hp hd
  have h2 := pw_bd12 p (lv + 6) hp (by omega)
  rw [pw_add (by omega) (by omega)]
  have h3 := mul_bd2 (a := pw p (lv + 6)) (b := pw p (vl p d)) 13841287201 1000000 (by omega) (by omega) (by omega) (by omega)
  have h4 := Int.mul_pos (show 0 < pw p (lv + 6) by omega) h1.1
  omega
theorem held_dvd {p lv x n d : Int} (hp : Pr p) (hd : d ≠ 0) (hl : -6 ≤ lv) (h : ¬ PM.turn p lv x n d < lv) : pw p (lv + 6 + vl p d) ∣ PM.dv p x n d := by
  rcases (turn_held hd).mp h with z | z
  · rw [z]; exact Int.dvd_zero _
  · by_cases z0 : PM.dv p x n d = 0
    · rw [z0]; exact Int.dvd_zero _
    · exact (le_vl_iff' hp z0 (by omega)).mp z

def enc : Option PM.Ball → Int × Int × Int × Bool
  | none => (0, 0, 0, false)
  | some b => (b.lv, b.top, b.dn, true)
def encC (c : Int) : Option PM.Ball → Int × Int × Int × Int
  | none => (0, 0, 0, c)
  | some b => (b.lv, b.top, b.dn, 0)

theorem about_ok {p l x : Int} {b : PM.Ball} (hp : Pr p) (h : PM.about p l x = some b) : PM.Ok p b ∧ b.lv = l ∧ PM.inLv l ∧ PM.mark p b = x % pw p (l + 6) := by
  unfold PM.about at h
  by_cases hl : PM.inLv l
  · rw [if_pos hl] at h
    obtain rfl := Option.some.inj h
    have hl' := hl
    unfold PM.inLv at hl'
    have hq := pw_pos2 hp (l + 6)
    obtain ⟨o1, o2⟩ := PM.ok_mk hp hl'.1 hl'.2 (Int.emod_nonneg x (b := pw p (l + 6)) (by omega)) (Int.emod_lt_of_pos x hq)
    exact ⟨o1, rfl, hl, o2⟩
  · rw [if_neg hl] at h; cases h
theorem brV_bd {p lv x n d : Int} (hp : Pr p) : 0 ≤ brV p lv x n d ∧ brV p lv x n d ≤ p := by
  have hpp := hp.pos
  unfold brV
  by_cases c : d = 0 ∨ PM.turn p lv x n d < lv
  · rw [if_pos c]; omega
  · rw [if_neg c]
    obtain ⟨a, b⟩ := emb (PM.dv p x n d / pw p (lv + 6 + vl p d) * inv (un p d) p) p (by omega)
    omega
/-- the next ball by a number: 0 for the parent -/
def nb (p : Int) (b : PM.Ball) (k : Int) : Option PM.Ball := if k = 0 then PM.about p (b.lv - 1) (PM.mark p b) else PM.about p (b.lv + 1) (PM.mark p b + (k - 1) * pw p (b.lv + 6))
theorem nb_ok {p k : Int} {b c : PM.Ball} (hp : Pr p) (h : nb p b k = some c) : PM.Ok p c := by
  unfold nb at h
  by_cases z : k = 0
  · rw [if_pos z] at h; exact (about_ok hp h).1
  · rw [if_neg z] at h; exact (about_ok hp h).1

/-- the reduced matrix, and whether it fits -/
def redT (a b c d : Int) : Int × Int × Int × Int × Bool := ((PM.red a b c d).1, (PM.red a b c d).2.1, (PM.red a b c d).2.2.1, (PM.red a b c d).2.2.2, decide (PM.isM (PM.red a b c d).1 (PM.red a b c d).2.1 (PM.red a b c d).2.2.1 (PM.red a b c d).2.2.2))
theorem gcd_le (a b : Int) : Int.gcd a b ≤ a.natAbs + b.natAbs := by
  by_cases h : a = 0
  · subst h; simp
  · have : Int.gcd a b ≤ a.natAbs := Nat.le_of_dvd (by omega) (Nat.gcd_dvd_left _ _)
    omega

/-- the end of a fraction, and whether it fits -/
def endF (n d : Int) : Int × Int × Bool := if d = 0 then (1, 0, true) else
  (n.tdiv ((Int.gcd n d : Int) * (if d < 0 then -1 else 1)), d.tdiv ((Int.gcd n d : Int) * (if d < 0 then -1 else 1)), decide (isE (n.tdiv ((Int.gcd n d : Int) * (if d < 0 then -1 else 1))) (d.tdiv ((Int.gcd n d : Int) * (if d < 0 then -1 else 1)))))
theorem end_low {n d : Int} (hd : d ≠ 0) : isE (n.tdiv ((Int.gcd n d : Int) * (if d < 0 then -1 else 1))) (d.tdiv ((Int.gcd n d : Int) * (if d < 0 then -1 else 1))) ↔
    (d.tdiv ((Int.gcd n d : Int) * (if d < 0 then -1 else 1)) ≤ 1000000 ∧ (n.tdiv ((Int.gcd n d : Int) * (if d < 0 then -1 else 1))).natAbs ≤ 1000000) := by
  have g0 : 0 < Int.gcd n d := by
    rcases Nat.eq_zero_or_pos (Int.gcd n d) with h | h
    · exact absurd (Int.gcd_eq_zero_iff.mp h).2 hd
    · exact h
  have dn : (Int.gcd n d : Int) ∣ n := Int.gcd_dvd_left ..
  have dd : (Int.gcd n d : Int) ∣ d := Int.gcd_dvd_right ..
  have hg := Int.gcd_ediv_gcd_ediv_gcd (i := n) (j := d) g0
  generalize hG : Int.gcd n d = G at *
  have en : n.tdiv (G : Int) = n / G := Int.tdiv_eq_ediv_of_dvd dn
  have ed : d.tdiv (G : Int) = d / G := Int.tdiv_eq_ediv_of_dvd dd
  have key : ∀ s : Int, (s = 1 ∨ s = -1) → s * d > 0 → (isE (n.tdiv ((G : Int) * s)) (d.tdiv ((G : Int) * s)) ↔ (d.tdiv ((G : Int) * s) ≤ 1000000 ∧ (n.tdiv ((G : Int) * s)).natAbs ≤ 1000000)) := by
    intro s hs hp
    rw [PM.tdiv_sg n _ s hs, PM.tdiv_sg d _ s hs, en, ed]
    have e3 : G * (d / G) = d := Int.mul_ediv_cancel' dd
    have hpos : 1 ≤ d / G * s := by
      refine Decidable.byContradiction fun h => ?_
      have h2 : d / G * s ≤ 0 := by omega
      have h3 : (G : Int) * (d / G * s) ≤ 0 := Int.mul_nonpos_of_nonneg_of_nonpos (by omega) h2
      rw [← Int.mul_assoc, e3, Int.mul_comm] at h3
      omega
    have hgs : Int.gcd (n / G * s) (d / G * s) = 1 := by
      rcases hs with rfl | rfl
      · simpa using hg
      · simpa using hg
    unfold isE
    constructor
    · rintro (h | h)
      · omega
      · omega
    · rintro ⟨h1, h2⟩
      exact Or.inr ⟨hpos, h1, by omega, by omega, hgs⟩
  by_cases h : d < 0
  · rw [if_pos h]; exact key (-1) (Or.inr rfl) (by omega)
  · rw [if_neg h]; exact key 1 (Or.inl rfl) (by omega)
theorem endF_pre {n d : Int} (hd : d ≠ 0) (hn : n.natAbs ≤ 4611686018427387904) (hdb : d.natAbs ≤ 4611686018427387904) :
    (if d < 0 then wrap64 (-(Int.gcd n d : Int)) else (Int.gcd n d : Int)) = (Int.gcd n d : Int) * (if d < 0 then -1 else 1) ∧ (Int.gcd n d : Int) * (if d < 0 then -1 else 1) ≠ 0 ∧ (∀ x : Int, x.natAbs ≤ 4611686018427387904 → wrap64 (x.tdiv ((Int.gcd n d : Int) * (if d < 0 then -1 else 1))) = x.tdiv ((Int.gcd n d : Int) * (if d < 0 then -1 else 1))) := by
  have g0 : 0 < Int.gcd n d := by
    rcases Nat.eq_zero_or_pos (Int.gcd n d) with h | h
    · exact absurd (Int.gcd_eq_zero_iff.mp h).2 hd
    · exact h
  have g1 : Int.gcd n d ≤ d.natAbs := by rw [Int.gcd_comm]; exact Nat.le_of_dvd (by omega) (Nat.gcd_dvd_left _ _)
  refine ⟨?_, ?_, fun x hx => ?_⟩
  · by_cases h : d < 0
    · rw [if_pos h, if_pos h, w64 (by omega) (by omega)]; omega
    · rw [if_neg h, if_neg h]; omega
  · by_cases h : d < 0
    · rw [if_pos h]; omega
    · rw [if_neg h]; omega
  · have := PM.tdiv_abs_le x ((Int.gcd n d : Int) * (if d < 0 then -1 else 1))
    exact w64 (by omega) (by omega)

theorem endAt_eq {n d : Int} (hn : n.natAbs ≤ 4611686018427387904) (hdb : d.natAbs ≤ 4611686018427387904) : ∃ K, ∀ k, K ≤ k → impl_endAt.f k n d = some (endF n d) := by
  by_cases z : d = 0
  · refine ⟨0, fun k _ => ?_⟩
    unfold impl_endAt.f endF
    rw [if_pos z, if_pos z]
  · obtain ⟨K1, h1⟩ := gcd_eq n d (by omega) (by omega)
    obtain ⟨q1, q2, q3⟩ := endF_pre z hn hdb
    obtain ⟨K2, h2⟩ := IsEnd_eq (n.tdiv ((Int.gcd n d : Int) * (if d < 0 then -1 else 1))) (d.tdiv ((Int.gcd n d : Int) * (if d < 0 then -1 else 1)))
    refine ⟨K1 + K2, fun k hk => ?_⟩
    unfold impl_endAt.f endF
    rw [if_neg z, if_neg z, h1 k (by omega)]
    simp only [Option.bind_some]
    have h2 := h2 k (by omega)
    have q3n := q3 n hn
    have q3d := q3 d hdb
    by_cases h : d < 0
    · simp only [if_pos h] at *
      rw [q1, if_neg q2, q3n, q3d, h2]; rfl
    · simp only [if_neg h, Int.mul_one] at *
      rw [if_neg q2, q3n, q3d, h2]; rfl

theorem l01EndOf_eq {n d : Int} (hn : n.natAbs ≤ 4611686018427387904) (hdb : d.natAbs ≤ 4611686018427387904) : ∃ K, ∀ k, K ≤ k → spec_l01EndOf.f k n d = some (endF n d) := by
  by_cases z : d = 0
  · refine ⟨0, fun k _ => ?_⟩
    unfold spec_l01EndOf.f endF
    rw [if_pos z, if_pos z]
  · obtain ⟨K1, h1⟩ := l01Gcd_eq n d (by omega) (by omega)
    obtain ⟨q1, q2, q3⟩ := endF_pre z hn hdb
    have hl := end_low (n := n) z
    refine ⟨K1, fun k hk => ?_⟩
    unfold spec_l01EndOf.f endF
    rw [if_neg z, if_neg z, h1 k (by omega)]
    simp only [Option.bind_some]
    have q3n := q3 n hn
    have q3d := q3 d hdb
    have b1 := PM.tdiv_abs_le n ((Int.gcd n d : Int) * (if d < 0 then -1 else 1))
    by_cases h : d < 0
    · simp only [if_pos h] at *
      rw [q1, if_neg q2, q3n, q3d, mx_neg _ (by omega)]
      by_cases c : d.tdiv ((Int.gcd n d : Int) * -1) ≤ 1000000
      · rw [if_pos c]
        congr 3
        rw [Bool.eq_iff_iff]; simp only [decide_eq_true_eq]; rw [hl]; omega
      · rw [if_neg c, decide_eq_false (fun y => c (hl.mp y).1)]
    · simp only [if_neg h, Int.mul_one] at *
      rw [if_neg q2, q3n, q3d, mx_neg _ (by omega)]
      by_cases c : d.tdiv (Int.gcd n d : Int) ≤ 1000000
      · rw [if_pos c]
        congr 3
        rw [Bool.eq_iff_iff]; simp only [decide_eq_true_eq]; rw [hl]; omega
      · rw [if_neg c, decide_eq_false (fun y => c (hl.mp y).1)]

theorem prime_dec (p : Int) : spec_l01Prime.f p = some (decide (Pr p)) := by
  rcases prime_cases p with ⟨h, h2⟩ | ⟨h, h2⟩
  · rw [h, decide_eq_true (show Pr p from h2)]
  · rw [h, decide_eq_false (show ¬ Pr p from h2)]


theorem all4 (a b c d e f g h : Int) : ([(⟨a, b⟩ : S24), ⟨c, d⟩, ⟨e, f⟩, ⟨g, h⟩].all eOk = true) ↔ (isE a b ∧ isE c d ∧ isE e f ∧ isE g h) := by
  simp [eOk]
theorem dif4 (a b c d e f g h : Int) : dif [(⟨a, b⟩ : S24), ⟨c, d⟩, ⟨e, f⟩, ⟨g, h⟩] = true → ¬ (a = e ∧ b = f) ∧ ¬ (a = g ∧ b = h) ∧ ¬ (c = e ∧ d = f) ∧ ¬ (c = g ∧ d = h) := by
  simp [dif, difFrom, difAt, rd_T24]
  intro h0 h1 h2 h3 h4 h5
  omega
/-- a quotient by the greatest common divisor -/
theorem quo {x y : Int} (hx : x ≠ 0) (hy : y ≠ 0) (bx : x.natAbs ≤ 4611686018427387904) (b_y : y.natAbs ≤ 4611686018427387904) : (Int.gcd x y : Int) ≠ 0 ∧ wrap64 (x.tdiv (Int.gcd x y : Int)) = x.tdiv (Int.gcd x y : Int) ∧ wrap64 (y.tdiv (Int.gcd x y : Int)) = y.tdiv (Int.gcd x y : Int) ∧ x.tdiv (Int.gcd x y : Int) ≠ 0 ∧ y.tdiv (Int.gcd x y : Int) ≠ 0 ∧ (x.tdiv (Int.gcd x y : Int)).natAbs ≤ x.natAbs ∧ (y.tdiv (Int.gcd x y : Int)).natAbs ≤ y.natAbs := by
  have g0 : (Int.gcd x y : Int) ≠ 0 := by
    intro h
    have : Int.gcd x y = 0 := by omega
    exact hx (Int.gcd_eq_zero_iff.mp this).1
  have d1 : (Int.gcd x y : Int) ∣ x := Int.gcd_dvd_left ..
  have d2 : (Int.gcd x y : Int) ∣ y := Int.gcd_dvd_right ..
  generalize (Int.gcd x y : Int) = g at *
  have a1 := PM.tdiv_abs_le x g
  have a2 := PM.tdiv_abs_le y g
  refine ⟨g0, w64 (by omega) (by omega), w64 (by omega) (by omega), ?_, ?_, a1, a2⟩
  · intro h
    have := Int.tdiv_mul_cancel d1
    rw [h, Int.zero_mul] at this; exact hx this.symm
  · intro h
    have := Int.tdiv_mul_cancel d2
    rw [h, Int.zero_mul] at this; exact hy this.symm
def fin (x : Int × Int × Bool) : Int × Int × Int := if x.2.2 = true then (x.1, x.2.1, 0) else (0, 0, 3)
def lastC (A B C D : Int) : Int × Int × Int := if (A.natAbs ≤ 1000000 ∧ B.natAbs ≤ 1000000) ∧ C.natAbs ≤ 1000000 ∧ D.natAbs ≤ 1000000 then fin (endF (A * B) (C * D)) else (0, 0, 3)
def red4 (A B C D : Int) : Int × Int × Int := lastC A (B.tdiv (Int.gcd B D : Int)) C (D.tdiv (Int.gcd B D : Int))
def red3 (A B C D : Int) : Int × Int × Int := red4 A (B.tdiv (Int.gcd B C : Int)) (C.tdiv (Int.gcd B C : Int)) D
def red2 (A B C D : Int) : Int × Int × Int := red3 (A.tdiv (Int.gcd A D : Int)) B C (D.tdiv (Int.gcd A D : Int))
def red1 (A B C D : Int) : Int × Int × Int := red2 (A.tdiv (Int.gcd A C : Int)) B (C.tdiv (Int.gcd A C : Int)) D
def res (a b c d e f g h : Int) : Int × Int × Int :=
  if isE a b ∧ isE c d ∧ isE e f ∧ isE g h then (if dif [(⟨a, b⟩ : S24), ⟨c, d⟩, ⟨e, f⟩, ⟨g, h⟩] = true then red1 (crs a b e f) (crs c d g h) (crs a b g h) (crs c d e f) else (0, 0, 5)) else (0, 0, 1)
theorem cbd {n1 d1 n2 d2 : Int} (h1 : isE n1 d1) (h2 : isE n2 d2) (hne : ¬ (n1 = n2 ∧ d1 = d2)) : crs n1 d1 n2 d2 ≠ 0 ∧ (crs n1 d1 n2 d2).natAbs ≤ 4611686018427387904 := by
  have hb := crs_bd h1 h2
  exact ⟨fun h => hne (crs_zero h1 h2 h), by omega⟩
theorem mulB {x y : Int} (hx : x.natAbs ≤ 1000000) (hy : y.natAbs ≤ 1000000) : wrap64 (x * y) = x * y ∧ (x * y).natAbs ≤ 4611686018427387904 := by
  have : (x * y).natAbs ≤ 1000000 * 1000000 := by rw [Int.natAbs_mul]; exact Nat.mul_le_mul hx hy
  exact ⟨w64 (by omega) (by omega), by omega⟩
theorem spec_last {A B C D : Int} (hA : A.natAbs ≤ 4611686018427387904) (hB : B.natAbs ≤ 4611686018427387904) (hC : C.natAbs ≤ 4611686018427387904) (hD : D.natAbs ≤ 4611686018427387904) : ∃ K, ∀ k, K ≤ k →
    (if (mx (mx (mx (mx (mx (mx (mx A (wrap64 (-A))) B) (wrap64 (-B))) C) (wrap64 (-C))) D) (wrap64 (-D))) > 1000000 then some (0, 0, 3) else (spec_l01EndOf.f k (wrap64 (A * B)) (wrap64 (C * D))).bind fun bt => if bt.2.2 = true then some (bt.1, bt.2.1, 0) else some (0, 0, 3)) = some (lastC A B C D) := by
  simp only [mx_max]
  rw [w64 (n := -A) (by omega) (by omega), w64 (n := -B) (by omega) (by omega), w64 (n := -C) (by omega) (by omega), w64 (n := -D) (by omega) (by omega)]
  by_cases c : (A.natAbs ≤ 1000000 ∧ B.natAbs ≤ 1000000) ∧ C.natAbs ≤ 1000000 ∧ D.natAbs ≤ 1000000
  · obtain ⟨m1, m2⟩ := mulB c.1.1 c.1.2
    obtain ⟨m3, m4⟩ := mulB c.2.1 c.2.2
    obtain ⟨K, hK⟩ := l01EndOf_eq m2 m4
    refine ⟨K, fun k hk => ?_⟩
    unfold lastC
    rw [if_neg (by omega), if_pos c, m1, m3, hK k hk]
    simp only [Option.bind_some]
    unfold fin
    by_cases q : (endF (A * B) (C * D)).2.2 = true
    · rw [if_pos q, if_pos q]
    · rw [if_neg q, if_neg q]
  · refine ⟨0, fun k hk => ?_⟩
    unfold lastC
    rw [if_pos (by omega), if_neg c]
theorem impl_last {A B C D : Int} (hA : A.natAbs ≤ 4611686018427387904) (hB : B.natAbs ≤ 4611686018427387904) (hC : C.natAbs ≤ 4611686018427387904) (hD : D.natAbs ≤ 4611686018427387904) : ∃ K, ∀ k, K ≤ k →
    impl_CrossRatio.l0 k [A, B] [C, D] 2 2 = some (lastC A B C D) := by
  obtain ⟨K1, w1⟩ := within_eq 1000000 (by omega) (by omega) [A, B] (by simp)
  obtain ⟨K2, w2⟩ := within_eq 1000000 (by omega) (by omega) [C, D] (by simp)
  have e1 : allB 1000000 [A, B] = decide (A.natAbs ≤ 1000000 ∧ B.natAbs ≤ 1000000) := by
    rw [Bool.eq_iff_iff]; simp [allB]; omega
  have e2 : allB 1000000 [C, D] = decide (C.natAbs ≤ 1000000 ∧ D.natAbs ≤ 1000000) := by
    rw [Bool.eq_iff_iff]; simp [allB]; omega
  rw [e1] at w1
  rw [e2] at w2
  by_cases c1 : A.natAbs ≤ 1000000 ∧ B.natAbs ≤ 1000000
  · by_cases c2 : C.natAbs ≤ 1000000 ∧ D.natAbs ≤ 1000000
    · obtain ⟨m1, m2⟩ := mulB c1.1 c1.2
      obtain ⟨m3, m4⟩ := mulB c2.1 c2.2
      obtain ⟨K, hK⟩ := endAt_eq m2 m4
      refine ⟨K + K1 + K2 + 2, fun k hk => ?_⟩
      obtain ⟨k, rfl⟩ : ∃ m, k = m + 1 + 1 := ⟨k - 2, by omega⟩
      simp only [impl_CrossRatio.l0]
      rw [if_neg (by omega), w1 _ (by omega), decide_eq_true c1]
      simp only [Option.bind_some, if_true]
      rw [w2 _ (by omega), decide_eq_true c2]
      simp only [Option.bind_some, impl_CrossRatio.j2]
      rw [if_neg (by simp), if_pos (by simp), if_pos (by simp), if_pos (by simp), if_pos (by simp), show rd [A, B] 0 = A from rfl, show rd [A, B] 1 = B from rfl, show rd [C, D] 0 = C from rfl, show rd [C, D] 1 = D from rfl, m1, m3, hK k (by omega)]
      simp only [Option.bind_some]
      unfold lastC fin impl_fittedEnd.f
      rw [if_pos (show (A.natAbs ≤ 1000000 ∧ B.natAbs ≤ 1000000) ∧ C.natAbs ≤ 1000000 ∧ D.natAbs ≤ 1000000 from ⟨c1, c2⟩)]
      by_cases q : (endF (A * B) (C * D)).2.2 = true
      · rw [if_pos q, if_pos q]; rfl
      · rw [if_neg q, if_neg q]; rfl
    · refine ⟨K1 + K2 + 2, fun k hk => ?_⟩
      obtain ⟨k, rfl⟩ : ∃ m, k = m + 1 + 1 := ⟨k - 2, by omega⟩
      simp only [impl_CrossRatio.l0]
      rw [if_neg (by omega), w1 _ (by omega), decide_eq_true c1]
      simp only [Option.bind_some, if_true]
      rw [w2 _ (by omega), decide_eq_false c2]
      simp only [Option.bind_some, impl_CrossRatio.j2]
      unfold lastC
      rw [if_pos (by simp), if_neg (fun z => c2 z.2)]
  · refine ⟨K1 + K2 + 2, fun k hk => ?_⟩
    obtain ⟨k, rfl⟩ : ∃ m, k = m + 1 + 1 := ⟨k - 2, by omega⟩
    simp only [impl_CrossRatio.l0]
    rw [if_neg (by omega), w1 _ (by omega), decide_eq_false c1]
    simp only [Option.bind_some, impl_CrossRatio.j2]
    unfold lastC
    rw [if_neg (by simp), if_pos trivial, if_neg (fun z => c1 z.1)]
theorem spec_res (a b c d e f g h : Int) : ∃ K, ∀ k, K ≤ k → spec_CrossRatio.f k a b c d e f g h = some (res a b c d e f g h) := by
  obtain ⟨K, hK⟩ := l05Code_eq 2 [] [⟨a, b⟩, ⟨c, d⟩, ⟨e, f⟩, ⟨g, h⟩] (by simp) (by simp)
  have hp2 : Pr 2 := Or.inl rfl
  by_cases z : isE a b ∧ isE c d ∧ isE e f ∧ isE g h
  · obtain ⟨z1, z2, z3, z4⟩ := z
    by_cases y : dif [(⟨a, b⟩ : S24), ⟨c, d⟩, ⟨e, f⟩, ⟨g, h⟩] = true
    · obtain ⟨y1, y2, y3, y4⟩ := dif4 _ _ _ _ _ _ _ _ y
      obtain ⟨A0, A1⟩ := cbd z1 z3 y1
      obtain ⟨B0, B1⟩ := cbd z2 z4 y4
      obtain ⟨C0, C1⟩ := cbd z1 z4 y2
      obtain ⟨D0, D1⟩ := cbd z2 z3 y3
      obtain ⟨A, hA⟩ : ∃ A, crs a b e f = A := ⟨_, rfl⟩
      obtain ⟨B, hB⟩ : ∃ B, crs c d g h = B := ⟨_, rfl⟩
      obtain ⟨C, hC⟩ : ∃ C, crs a b g h = C := ⟨_, rfl⟩
      obtain ⟨D, hD⟩ : ∃ D, crs c d e f = D := ⟨_, rfl⟩
      rw [hA] at A0 A1
      rw [hB] at B0 B1
      rw [hC] at C0 C1
      rw [hD] at D0 D1
      obtain ⟨p1, p2, p3, p4, p5, p6, p7⟩ := quo A0 C0 A1 C1
      obtain ⟨K1, g1⟩ := l01Gcd_eq A C (by omega) (by omega)
      obtain ⟨q1, q2, q3, q4, q5, q6, q7⟩ := quo p4 D0 (by omega) D1
      obtain ⟨K2, g2⟩ := l01Gcd_eq (A.tdiv (Int.gcd A C : Int)) D (by omega) (by omega)
      obtain ⟨r1, r2, r3, r4, r5, r6, r7⟩ := quo B0 p5 B1 (by omega)
      obtain ⟨K3, g3⟩ := l01Gcd_eq B (C.tdiv (Int.gcd A C : Int)) (by omega) (by omega)
      obtain ⟨s1, s2, s3, s4, s5, s6, s7⟩ := quo r4 q5 (by omega) (by omega)
      obtain ⟨K4, g4⟩ := l01Gcd_eq (B.tdiv (Int.gcd B (C.tdiv (Int.gcd A C : Int)) : Int)) (D.tdiv (Int.gcd (A.tdiv (Int.gcd A C : Int)) D : Int)) (by omega) (by omega)
      obtain ⟨K5, hlast⟩ := spec_last (A := (A.tdiv (Int.gcd A C : Int)).tdiv (Int.gcd (A.tdiv (Int.gcd A C : Int)) D : Int)) (B := (B.tdiv (Int.gcd B (C.tdiv (Int.gcd A C : Int)) : Int)).tdiv (Int.gcd (B.tdiv (Int.gcd B (C.tdiv (Int.gcd A C : Int)) : Int)) (D.tdiv (Int.gcd (A.tdiv (Int.gcd A C : Int)) D : Int)) : Int)) (C := (C.tdiv (Int.gcd A C : Int)).tdiv (Int.gcd B (C.tdiv (Int.gcd A C : Int)) : Int)) (D := (D.tdiv (Int.gcd (A.tdiv (Int.gcd A C : Int)) D : Int)).tdiv (Int.gcd (B.tdiv (Int.gcd B (C.tdiv (Int.gcd A C : Int)) : Int)) (D.tdiv (Int.gcd (A.tdiv (Int.gcd A C : Int)) D : Int)) : Int)) (by omega) (by omega) (by omega) (by omega)
      refine ⟨K + K1 + K2 + K3 + K4 + K5, fun k hk => ?_⟩
      unfold spec_CrossRatio.f res
      rw [hK k (by omega)]
      simp only [all4, List.all_nil, and_true]
      rw [if_pos (show Pr 2 ∧ isE a b ∧ isE c d ∧ isE e f ∧ isE g h from ⟨hp2, z1, z2, z3, z4⟩), if_pos y, if_pos (show isE a b ∧ isE c d ∧ isE e f ∧ isE g h from ⟨z1, z2, z3, z4⟩), if_pos y, l05Cross_eq z1 z3, l05Cross_eq z2 z4, l05Cross_eq z1 z4, l05Cross_eq z2 z3, hA, hB, hC, hD]
      simp only [Option.bind_some, if_true]
      rw [g1 k (by omega)]
      simp only [Option.bind_some]
      rw [if_neg p1, p2, p3, g2 k (by omega)]
      simp only [Option.bind_some]
      rw [if_neg q1, q2, q3, g3 k (by omega)]
      simp only [Option.bind_some]
      rw [if_neg r1, r2, r3, g4 k (by omega)]
      simp only [Option.bind_some]
      rw [if_neg s1, s2, s3]
      exact hlast k (by omega)
    · refine ⟨K, fun k hk => ?_⟩
      unfold spec_CrossRatio.f res
      rw [hK k (by omega)]
      simp only [all4, List.all_nil, and_true]
      rw [if_pos (show Pr 2 ∧ isE a b ∧ isE c d ∧ isE e f ∧ isE g h from ⟨hp2, z1, z2, z3, z4⟩), if_neg y, if_pos (show isE a b ∧ isE c d ∧ isE e f ∧ isE g h from ⟨z1, z2, z3, z4⟩), if_neg y]
      simp
  · refine ⟨K, fun k hk => ?_⟩
    unfold spec_CrossRatio.f res
    rw [hK k (by omega)]
    simp only [all4, List.all_nil, and_true]
    rw [if_neg (fun w => z w.2), if_neg z]
    simp
theorem l1_step {k : Nat} {X Y : List Int} {i j q : Int} {g : Int} (hi : 0 ≤ i) (hi2 : i < 2) (hj : 0 ≤ j) (hj2 : j < 2) (hX : X.length = 2) (hY : Y.length = 2) (hg : impl_gcd.f k (rd X i) (rd Y j) = some g) (g0 : g ≠ 0) :
    impl_CrossRatio.l1 (k + 1) X Y i 2 q 2 j = impl_CrossRatio.l1 k (X.set i.toNat (wrap64 ((rd X i).tdiv g))) (Y.set j.toNat (wrap64 ((rd Y j).tdiv g))) i 2 q 2 (j + 1) := by
  simp only [impl_CrossRatio.l1]
  rw [if_pos hj2, if_pos hi, if_pos (by omega), if_pos hj, if_pos (by omega), hg]
  simp only [Option.bind_some]
  rw [if_neg g0, w64 (n := j + 1) (by omega) (by omega)]
theorem impl_res (a b c d e f g h : Int) : ∃ K, ∀ k, K ≤ k → impl_CrossRatio.f k a b c d e f g h = some (res a b c d e f g h) := by
  obtain ⟨K0, hK⟩ := areEnds_eq [⟨a, b⟩, ⟨c, d⟩, ⟨e, f⟩, ⟨g, h⟩] (by simp)
  obtain ⟨K9, hK2⟩ := areDifferent_eq [⟨a, b⟩, ⟨c, d⟩, ⟨e, f⟩, ⟨g, h⟩] (by simp)
  by_cases z : isE a b ∧ isE c d ∧ isE e f ∧ isE g h
  · have z' := (all4 _ _ _ _ _ _ _ _).2 z
    obtain ⟨z1, z2, z3, z4⟩ := z
    by_cases y : dif [(⟨a, b⟩ : S24), ⟨c, d⟩, ⟨e, f⟩, ⟨g, h⟩] = true
    · obtain ⟨y1, y2, y3, y4⟩ := dif4 _ _ _ _ _ _ _ _ y
      obtain ⟨A0, A1⟩ := cbd z1 z3 y1
      obtain ⟨B0, B1⟩ := cbd z2 z4 y4
      obtain ⟨C0, C1⟩ := cbd z1 z4 y2
      obtain ⟨D0, D1⟩ := cbd z2 z3 y3
      obtain ⟨A, hA⟩ : ∃ A, crs a b e f = A := ⟨_, rfl⟩
      obtain ⟨B, hB⟩ : ∃ B, crs c d g h = B := ⟨_, rfl⟩
      obtain ⟨C, hC⟩ : ∃ C, crs a b g h = C := ⟨_, rfl⟩
      obtain ⟨D, hD⟩ : ∃ D, crs c d e f = D := ⟨_, rfl⟩
      rw [hA] at A0 A1
      rw [hB] at B0 B1
      rw [hC] at C0 C1
      rw [hD] at D0 D1
      obtain ⟨p1, p2, p3, p4, p5, p6, p7⟩ := quo A0 C0 A1 C1
      obtain ⟨K1, g1⟩ := gcd_eq A C (by omega) (by omega)
      obtain ⟨q1, q2, q3, q4, q5, q6, q7⟩ := quo p4 D0 (by omega) D1
      obtain ⟨K2, g2⟩ := gcd_eq (A.tdiv (Int.gcd A C : Int)) D (by omega) (by omega)
      obtain ⟨r1, r2, r3, r4, r5, r6, r7⟩ := quo B0 p5 B1 (by omega)
      obtain ⟨K3, g3⟩ := gcd_eq B (C.tdiv (Int.gcd A C : Int)) (by omega) (by omega)
      obtain ⟨s1, s2, s3, s4, s5, s6, s7⟩ := quo r4 q5 (by omega) (by omega)
      obtain ⟨K4, g4⟩ := gcd_eq (B.tdiv (Int.gcd B (C.tdiv (Int.gcd A C : Int)) : Int)) (D.tdiv (Int.gcd (A.tdiv (Int.gcd A C : Int)) D : Int)) (by omega) (by omega)
      obtain ⟨K5, hlast⟩ := impl_last (A := (A.tdiv (Int.gcd A C : Int)).tdiv (Int.gcd (A.tdiv (Int.gcd A C : Int)) D : Int)) (B := (B.tdiv (Int.gcd B (C.tdiv (Int.gcd A C : Int)) : Int)).tdiv (Int.gcd (B.tdiv (Int.gcd B (C.tdiv (Int.gcd A C : Int)) : Int)) (D.tdiv (Int.gcd (A.tdiv (Int.gcd A C : Int)) D : Int)) : Int)) (C := (C.tdiv (Int.gcd A C : Int)).tdiv (Int.gcd B (C.tdiv (Int.gcd A C : Int)) : Int)) (D := (D.tdiv (Int.gcd (A.tdiv (Int.gcd A C : Int)) D : Int)).tdiv (Int.gcd (B.tdiv (Int.gcd B (C.tdiv (Int.gcd A C : Int)) : Int)) (D.tdiv (Int.gcd (A.tdiv (Int.gcd A C : Int)) D : Int)) : Int)) (by omega) (by omega) (by omega) (by omega)
      refine ⟨K0 + K1 + K2 + K3 + K4 + K5 + K9 + 10, fun k hk => ?_⟩
      obtain ⟨k, rfl⟩ : ∃ m, k = m + 1 + 1 + 1 + 1 + 1 + 1 + 1 + 1 := ⟨k - 8, by omega⟩
      unfold impl_CrossRatio.f impl_fourCode.f res
      rw [hK _ (by omega), hK2 _ (by omega), z', y, cross_eq z1 z3, cross_eq z2 z4, cross_eq z1 z4, cross_eq z2 z3, hA, hB, hC, hD]
      simp only [Option.bind_some, if_true]
      rw [if_pos (show isE a b ∧ isE c d ∧ isE e f ∧ isE g h from ⟨z1, z2, z3, z4⟩)]
      rw [show (([A, B].length : Nat) : Int) = 2 from rfl]
      simp only [impl_CrossRatio.l0]
      rw [if_pos (by omega), show (([C, D].length : Nat) : Int) = 2 from rfl]
      rw [l1_step (by omega) (by omega) (by omega) (by omega) rfl rfl (g1 _ (by omega)) p1]
      rw [show rd [A, B] 0 = A from rfl, show rd [C, D] 0 = C from rfl, p2, p3, show ∀ x : Int, [A, B].set (0 : Int).toNat x = [x, B] from fun _ => rfl, show ∀ x : Int, [C, D].set (0 : Int).toNat x = [x, D] from fun _ => rfl]
      rw [l1_step (by omega) (by omega) (by omega) (by omega) rfl rfl (g2 _ (by omega)) q1]
      rw [show ∀ x : Int, rd [x, B] 0 = x from fun _ => rfl, show ∀ x : Int, rd [x, D] (0 + 1) = D from fun _ => rfl, q2, q3, show ∀ x y : Int, [x, B].set (0 : Int).toNat y = [y, B] from fun _ _ => rfl, show ∀ x y : Int, [x, D].set (0 + 1 : Int).toNat y = [x, y] from fun _ _ => rfl]
      simp only [impl_CrossRatio.l1]
      rw [if_neg (by omega)]
      simp only [impl_CrossRatio.l0]
      rw [w64 (n := 0 + 1) (by omega) (by omega), if_pos (by omega), show ∀ x y : Int, (([x, y].length : Nat) : Int) = 2 from fun _ _ => rfl]
      rw [l1_step (by omega) (by omega) (by omega) (by omega) rfl rfl (g3 _ (by omega)) r1]
      rw [show ∀ x : Int, rd [x, B] (0 + 1) = B from fun _ => rfl, show ∀ x y : Int, rd [x, y] 0 = x from fun _ _ => rfl, r2, r3, show ∀ x y : Int, [x, B].set (0 + 1 : Int).toNat y = [x, y] from fun _ _ => rfl, show ∀ x y t : Int, [x, y].set (0 : Int).toNat t = [t, y] from fun _ _ _ => rfl]
      rw [l1_step (by omega) (by omega) (by omega) (by omega) rfl rfl (g4 _ (by omega)) s1]
      rw [show ∀ x y : Int, rd [x, y] (0 + 1) = y from fun _ _ => rfl, show ∀ x y : Int, rd [x, y] (0 + 1) = y from fun _ _ => rfl, s2, s3, show ∀ x y t : Int, [x, y].set (0 + 1 : Int).toNat t = [x, t] from fun _ _ _ => rfl, show ∀ x y t : Int, [x, y].set (0 + 1 : Int).toNat t = [x, t] from fun _ _ _ => rfl]
      simp only [impl_CrossRatio.l1]
      rw [if_neg (by omega), w64 (n := 0 + 1 + 1) (by omega) (by omega)]
      exact hlast _ (by omega)
    · refine ⟨K0 + K9, fun k hk => ?_⟩
      unfold impl_CrossRatio.f impl_fourCode.f res
      rw [hK _ (by omega), hK2 _ (by omega), z', if_pos (show isE a b ∧ isE c d ∧ isE e f ∧ isE g h from ⟨z1, z2, z3, z4⟩), if_neg y, Bool.eq_false_iff.mpr y]
      simp
  · refine ⟨K0, fun k hk => ?_⟩
    unfold impl_CrossRatio.f impl_fourCode.f res
    rw [hK _ (by omega), Bool.eq_false_iff.mpr (fun w => z ((all4 _ _ _ _ _ _ _ _).1 w)), if_neg z]
    simp
theorem FnExactCrossRatio (a b c d e f g h : Int) (_ : (Lit.int .i64 a).wf = true) (_ : (Lit.int .i64 b).wf = true) (_ : (Lit.int .i64 c).wf = true) (_ : (Lit.int .i64 d).wf = true) (_ : (Lit.int .i64 e).wf = true) (_ : (Lit.int .i64 f).wf = true) (_ : (Lit.int .i64 g).wf = true) (_ : (Lit.int .i64 h).wf = true) : ∃ k, laws_FnExactCrossRatio.f k a b c d e f g h = some true := by
  obtain ⟨K1, h1⟩ := spec_res a b c d e f g h
  obtain ⟨K2, h2⟩ := impl_res a b c d e f g h
  refine ⟨K1 + K2, ?_⟩
  unfold laws_FnExactCrossRatio.f laws_toEnd.f
  simp only [Option.bind_some]
  rw [h1 _ (by omega), h2 _ (by omega)]
  simp [laws_eqEnd.f]

end Go.Proofs.Ytnejmbhpngdiiaa.Pure
