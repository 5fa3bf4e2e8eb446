/- The program's MeetingOf and the reference's return the same, for all arguments: the printed functions' law answers true. -/
import Derived.Test.YtpihnmmoahplgaaQLFnExactMeetingOf
import Derived.Test.YtpihnmmoahplgaaMath
import Derived.Laws.Bits64b
import Derived.Lib.BitFns
set_option linter.unusedVariables false
set_option linter.unusedSimpArgs false
namespace Go.Proofs.Ytpihnmmoahplgaa.Pure
open Go.RowKit Go.Proofs.Ytpihnmmoahplgaa.PAll Go.Proofs.YtpihnmmoahplgaaW.PrintWords Go.Proofs.YtpihnmmoahplgaaW.PrintLast PM

theorem w64 {n : Int} (h1 : -9223372036854775808 ≤ n) (h2 : n ≤ 9223372036854775807) : wrap64 n = n := by unfold wrap64; omega
theorem rd_nat (l : List Int) (i : Nat) (h : i < l.length) : l[i]? = some (rd l (i : Int)) := by
 unfold rd; simp [List.getD_eq_getElem?_getD, h]

theorem prime_cases (p : Int) : (spec_l01Prime.f p = some true ∧ (p = 2 ∨ p = 3 ∨ p = 5 ∨ p = 7)) ∨ (spec_l01Prime.f p = some false ∧ ¬ (p = 2 ∨ p = 3 ∨ p = 5 ∨ p = 7)) := by
 unfold spec_l01Prime.f
 by_cases h2 : p = 2
 ·
  simp [h2]
 by_cases h3 : p = 3
 ·
  simp [h3]
 by_cases h5 : p = 5
 ·
  simp [h5]
 by_cases h7 : p = 7
 ·
  simp [h7]
 ·
  simp [h2, h3, h5, h7]

theorem isPrime_eq (p : Int) : impl_isPrime.f p = spec_l01Prime.f p := rfl

theorem in_eq (n a b : Int) : spec_l01In.f n a b = some (decide (a ≤ n ∧ n ≤ b)) := by
 unfold spec_l01In.f
 by_cases h : a ≤ n
 ·
  rw [if_pos h]; simp [h]
 ·
  rw [if_neg (by omega)]; simp [h]

/-- all numbers of a list have absolute values of at most so much -/
def allB (m : Int) (l : List Int) : Bool := l.all fun x => decide (-m ≤ x ∧ x ≤ m)
theorem allB_drop (m : Int) (l : List Int) (i : Nat) (h : i < l.length) : allB m (l.drop i) = (decide (-m ≤ rd l i ∧ rd l i ≤ m) && allB m (l.drop (i + 1))) := by
 have h1 := rd_nat l i h
 rw [List.getElem?_eq_getElem h] at h1
 rw [List.drop_eq_getElem_cons h, Option.some.inj h1]; rfl
theorem within_eq (m : Int) (hm : 0 ≤ m) (hm2 : m ≤ 1000000000000000000) (l : List Int) (hl : l.length ≤ 1048576) : ∃ K, ∀ k, K ≤ k → impl_within.f k m l = some (allB m l) := by
 have go : ∀ (d k i : Nat), i + d = l.length → d < k → impl_within.l0 k m l l.length i = some (allB m (l.drop i)) := by
  intro d
  induction d with
  | zero =>
   intro k i h2 h3
   obtain ⟨k, rfl⟩ : ∃ m, k = m + 1 := ⟨k - 1, by omega⟩
   simp only [impl_within.l0]
   rw [if_neg (by omega), List.drop_eq_nil_of_le (by omega)]; rfl
  | succ d ih =>
   intro k i h2 h3
   obtain ⟨k, rfl⟩ : ∃ m, k = m + 1 := ⟨k - 1, by omega⟩
   simp only [impl_within.l0]
   rw [if_pos (by omega), if_pos (by omega), if_pos (by omega), allB_drop _ _ _ (by omega), w64 (n := -m) (by omega) (by omega), w64 (by omega) (by omega)]
   have := ih k (i + 1) (by omega) (by omega)
   rw [show ((i : Int) + 1) = ((i + 1 : Nat) : Int) from by omega, this]
   by_cases h : rd l (i : Int) < -m
   ·
    rw [if_pos h, decide_eq_false (by omega)]; rfl
   ·
    rw [if_neg h]
    by_cases h' : rd l (i : Int) > m
    ·
     rw [if_pos h', decide_eq_false (by omega)]; rfl
    ·
     rw [if_neg h', decide_eq_true (by omega)]; rfl
 exact ⟨l.length + 1, fun k hk => by
  have := go l.length k 0 (by omega) (by omega)
  simpa [impl_within.f] using this⟩

theorem all_drop {α : Type} (P : α → Bool) (l : List α) (i : Nat) (h : i < l.length) : (l.drop i).all P = (P (l[i]'h) && (l.drop (i + 1)).all P) := by
 rw [List.drop_eq_getElem_cons h]; rfl
theorem tmod_zero_iff (n p : Int) : n.tmod p = 0 ↔ p ∣ n := Int.dvd_iff_tmod_eq_zero.symm

theorem val_eq (p n : Int) (hp : Pr p) (hn : n ≠ 0) (hb : n.natAbs ≤ 9223372036854775807) : ∀ k, 70 ≤ k → spec_l01Val.f k p n = some (vl p n : Int) := by
 have hp2 := hp.pos
 have go : ∀ (v k : Nat) (n s : Int), n ≠ 0 → n.natAbs ≤ 9223372036854775807 → vl p n = v → v < k → 0 ≤ s → s + v ≤ 1000000 → spec_l01Val.l0 k p n s = some (s + v) := by
  intro v
  induction v with
  | zero =>
   intro k n s hn hb hv hk h0 h1
   obtain ⟨k, rfl⟩ : ∃ m, k = m + 1 := ⟨k - 1, by omega⟩
   simp only [spec_l01Val.l0]
   rw [if_neg (by omega), if_neg (by rw [tmod_zero_iff]; exact (vl_zero_iff hp hn).1 hv)]
   simp
  | succ v ih =>
   intro k n s hn hb hv hk h0 h1
   obtain ⟨k, rfl⟩ : ∃ m, k = m + 1 := ⟨k - 1, by omega⟩
   have hd : p ∣ n := Decidable.byContradiction fun h => by have := (vl_zero_iff hp hn).2 h; omega
   obtain ⟨g1, g2, g3⟩ := vl_step hp hn hd
   simp only [spec_l01Val.l0]
   rw [if_neg (by omega), if_pos (by rw [tmod_zero_iff]; exact hd), w64 (n := n.tdiv p) (by omega) (by omega), w64 (n := s + 1) (by omega) (by omega), ih k _ _ g1 (by omega) (by omega) (by omega) (by omega) (by omega)]
   congr 1; omega
 intro k hk
 have hle := vl_le63 hp hn (by omega)
 unfold spec_l01Val.f
 rw [go (vl p n) k n 0 hn hb rfl (by omega) (by omega) (by omega)]
 congr 1; omega

theorem valuation_eq (p n : Int) (hp : Pr p) (hb : n.natAbs ≤ 9223372036854775807) : ∀ k, 70 ≤ k → impl_valuation.f k p n = some (vz p n) := by
 have hp2 := hp.pos
 have go : ∀ (v k : Nat) (n s : Int), n ≠ 0 → n.natAbs ≤ 9223372036854775807 → vl p n = v → v < k → 0 ≤ s → s + v ≤ 1000000 → impl_valuation.l0 k p n s = some (s + v) := by
  intro v
  induction v with
  | zero =>
   intro k n s hn hb hv hk h0 h1
   obtain ⟨k, rfl⟩ : ∃ m, k = m + 1 := ⟨k - 1, by omega⟩
   simp only [impl_valuation.l0]
   rw [if_neg (by omega), if_neg (by rw [tmod_zero_iff]; exact (vl_zero_iff hp hn).1 hv)]
   simp
  | succ v ih =>
   intro k n s hn hb hv hk h0 h1
   obtain ⟨k, rfl⟩ : ∃ m, k = m + 1 := ⟨k - 1, by omega⟩
   have hd : p ∣ n := Decidable.byContradiction fun h => by have := (vl_zero_iff hp hn).2 h; omega
   obtain ⟨g1, g2, g3⟩ := vl_step hp hn hd
   simp only [impl_valuation.l0]
   rw [if_neg (by omega), if_pos (by rw [tmod_zero_iff]; exact hd), w64 (n := n.tdiv p) (by omega) (by omega), w64 (n := s + 1) (by omega) (by omega), ih k _ _ g1 (by omega) (by omega) (by omega) (by omega) (by omega)]
   congr 1; omega
 intro k hk
 unfold impl_valuation.f vz
 by_cases h0 : n = 0
 ·
  rw [if_pos h0, if_pos h0]
 ·
  have hle := vl_le63 hp h0 (by omega)
  rw [if_neg h0, if_neg h0, go (vl p n) k n 0 h0 hb rfl (by omega) (by omega) (by omega)]
  congr 1; omega

theorem pw_bd (p k : Int) (hp : Pr p) (h : k ≤ 20) : 1 ≤ pw p k ∧ pw p k ≤ 79792266297612001 := by
 have h1 := pw_pos2 hp k
 have h2 := pw_le hp h
 have h3 : pw p 20 ≤ 79792266297612001 := by
  rcases hp with rfl | rfl | rfl | rfl <;> decide +kernel
 omega
theorem pw_bd12 (p k : Int) (hp : Pr p) (h : k ≤ 12) : 1 ≤ pw p k ∧ pw p k ≤ 13841287201 := by
 have h1 := pw_pos2 hp k
 have h2 := pw_le hp h
 have h3 : pw p 12 ≤ 13841287201 := by
  rcases hp with rfl | rfl | rfl | rfl <;> decide +kernel
 omega
theorem pw_bd6 (p k : Int) (hp : Pr p) (h : k ≤ 6) : 1 ≤ pw p k ∧ pw p k ≤ 117649 := by
 have h1 := pw_pos2 hp k
 have h2 := pw_le hp h
 have h3 : pw p 6 ≤ 117649 := by
  rcases hp with rfl | rfl | rfl | rfl <;> decide +kernel
 omega
theorem pw_succ (p k : Int) (h : 0 ≤ k) : pw p (k + 1) = pw p k * p := by
 rw [pw_add h (by omega), pw_one]

theorem l01Power_eq (p n : Int) (hp : Pr p) (h : n ≤ 20) (h0 : -9223372036854775808 ≤ n) : ∀ k, 30 ≤ k → spec_l01Power.f k p n = some (pw p n) := by
 have hp2 := hp.pos
 have go : ∀ (d k : Nat) (n out j : Int), n = d → 0 ≤ j → j + d ≤ 20 → d < k → out = pw p j → spec_l01Power.l0 k p n out = some (pw p (j + d)) := by
  intro d
  induction d with
  | zero =>
   intro k n out j hn hj hs hk ho
   obtain ⟨k, rfl⟩ : ∃ m, k = m + 1 := ⟨k - 1, by omega⟩
   simp only [spec_l01Power.l0]
   rw [if_neg (by omega), ho]; simp
  | succ d ih =>
   intro k n out j hn hj hs hk ho
   obtain ⟨k, rfl⟩ : ∃ m, k = m + 1 := ⟨k - 1, by omega⟩
   simp only [spec_l01Power.l0]
   have hb := pw_bd p (j + 1) hp (by omega)
   have hs1 := pw_succ p j hj
   rw [if_pos (by omega), w64 (n := n - 1) (by omega) (by omega), ho, ← hs1, w64 (by omega) (by omega), ih k (n - 1) _ (j + 1) (by omega) (by omega) (by omega) (by omega) rfl]
   congr 2; omega
 intro k hk
 unfold spec_l01Power.f
 by_cases h1 : n ≤ 0
 ·
  obtain ⟨k, rfl⟩ : ∃ m, k = m + 1 := ⟨k - 1, by omega⟩
  simp only [spec_l01Power.l0]
  rw [if_neg (by omega)]
  simp [pw, show n.toNat = 0 by omega]
 ·
  rw [go n.toNat k n 1 0 (by omega) (by omega) (by omega) (by omega) (by simp [pw])]
  congr 2; omega

theorem power_eq (p n : Int) (hp : Pr p) (h : n ≤ 20) : ∀ k, 30 ≤ k → impl_power.f k p n = some (pw p n) := by
 have hp2 := hp.pos
 have go : ∀ (d k : Nat) (n out j : Int), n = j + d → 0 ≤ j → n ≤ 20 → d < k → out = pw p j → impl_power.l0 k p out n j = some (pw p n) := by
  intro d
  induction d with
  | zero =>
   intro k n out j hn hj hs hk ho
   obtain ⟨k, rfl⟩ : ∃ m, k = m + 1 := ⟨k - 1, by omega⟩
   simp only [impl_power.l0]
   rw [if_neg (by omega), ho]
   congr 2; omega
  | succ d ih =>
   intro k n out j hn hj hs hk ho
   obtain ⟨k, rfl⟩ : ∃ m, k = m + 1 := ⟨k - 1, by omega⟩
   simp only [impl_power.l0]
   have hb := pw_bd p (j + 1) hp (by omega)
   have hs1 := pw_succ p j hj
   rw [if_pos (by omega), w64 (n := j + 1) (by omega) (by omega), ho, ← hs1, w64 (by omega) (by omega), ih k n _ (j + 1) (by omega) (by omega) (by omega) (by omega) rfl]
 intro k hk
 unfold impl_power.f
 by_cases h1 : n ≤ 0
 ·
  obtain ⟨k, rfl⟩ : ∃ m, k = m + 1 := ⟨k - 1, by omega⟩
  simp only [impl_power.l0]
  rw [if_neg (by omega)]
  simp [pw, show n.toNat = 0 by omega]
 ·
  rw [go n.toNat k n 1 0 (by omega) (by omega) (by omega) (by omega) (by simp [pw])]

theorem mx_neg (a : Int) (h : a.natAbs ≤ 9223372036854775807) : mx a (wrap64 (-a)) = (a.natAbs : Int) := by
 rw [w64 (by omega) (by omega)]; unfold mx; split <;> omega
theorem gcd_tmod (a b : Int) : Int.gcd b (a.tmod b) = Int.gcd a b := by
 have h := Int.gcd_add_mul_left_right b (a.tmod b) (a.tdiv b)
 rw [Int.tmod_add_mul_tdiv] at h
 rw [Int.gcd_comm a b]; exact h.symm

theorem l01Gcd_eq (a b : Int) (ha : a.natAbs ≤ 9223372036854775807) (hb : b.natAbs ≤ 9223372036854775807) : ∃ K, ∀ k, K ≤ k → spec_l01Gcd.f k a b = some (Int.gcd a b : Int) := by
 have go : ∀ (d k : Nat) (a b : Int), a.natAbs ≤ 9223372036854775807 → b.natAbs ≤ 9223372036854775807 → b.natAbs ≤ d → d < k → spec_l01Gcd.l0 k a b = some (Int.gcd a b : Int) := by
  intro d
  induction d with
  | zero =>
   intro k a b ha hb0 hb hk
   obtain ⟨k, rfl⟩ : ∃ m, k = m + 1 := ⟨k - 1, by omega⟩
   obtain rfl : b = 0 := by omega
   simp only [spec_l01Gcd.l0]
   rw [if_pos trivial, mx_neg a ha, Int.gcd_zero_right]
  | succ d ih =>
   intro k a b ha hb0 hb hk
   obtain ⟨k, rfl⟩ : ∃ m, k = m + 1 := ⟨k - 1, by omega⟩
   simp only [spec_l01Gcd.l0]
   by_cases h : b = 0
   ·
    rw [if_pos h, mx_neg a ha, h, Int.gcd_zero_right]
   ·
    rw [if_neg h, ih k b (a.tmod b) hb0 (by
     have : (a.tmod b).natAbs < b.natAbs := by rw [Int.natAbs_tmod]; exact Nat.mod_lt _ (by omega)
     omega) (by
     have : (a.tmod b).natAbs < b.natAbs := by rw [Int.natAbs_tmod]; exact Nat.mod_lt _ (by omega)
     omega) (by omega), gcd_tmod]
 exact ⟨b.natAbs + 1, fun k hk => by unfold spec_l01Gcd.f; exact go b.natAbs k a b ha hb (Nat.le_refl _) (by omega)⟩

theorem gcd_eq (a b : Int) (ha : a.natAbs ≤ 9223372036854775807) (hb : b.natAbs ≤ 9223372036854775807) : ∃ K, ∀ k, K ≤ k → impl_gcd.f k a b = some (Int.gcd a b : Int) := by
 have go : ∀ (d k : Nat) (a b : Int), a.natAbs ≤ 9223372036854775807 → b.natAbs ≤ 9223372036854775807 → b.natAbs ≤ d → d < k → impl_gcd.l0 k a b = some (Int.gcd a b : Int) := by
  intro d
  induction d with
  | zero =>
   intro k a b ha hb0 hb hk
   obtain ⟨k, rfl⟩ : ∃ m, k = m + 1 := ⟨k - 1, by omega⟩
   obtain rfl : b = 0 := by omega
   simp only [impl_gcd.l0]
   rw [if_pos trivial, mx_neg a ha, Int.gcd_zero_right]
  | succ d ih =>
   intro k a b ha hb0 hb hk
   obtain ⟨k, rfl⟩ : ∃ m, k = m + 1 := ⟨k - 1, by omega⟩
   simp only [impl_gcd.l0]
   by_cases h : b = 0
   ·
    rw [if_pos h, mx_neg a ha, h, Int.gcd_zero_right]
   ·
    rw [if_neg h, ih k b (a.tmod b) hb0 (by
     have : (a.tmod b).natAbs < b.natAbs := by rw [Int.natAbs_tmod]; exact Nat.mod_lt _ (by omega)
     omega) (by
     have : (a.tmod b).natAbs < b.natAbs := by rw [Int.natAbs_tmod]; exact Nat.mod_lt _ (by omega)
     omega) (by omega), gcd_tmod]
 exact ⟨b.natAbs + 1, fun k hk => by unfold impl_gcd.f; exact go b.natAbs k a b ha hb (Nat.le_refl _) (by omega)⟩

theorem l01End_eq (n d : Int) : ∃ K, ∀ k, K ≤ k → spec_l01End.f k n d = some (decide (isE n d)) := by
 by_cases h0 : d = 0
 ·
  refine ⟨0, fun k _ => ?_⟩
  unfold spec_l01End.f
  rw [if_pos h0]
  congr 1
  by_cases h : n = 1
  ·
   simp [h, h0, isE]
  ·
   simp [h, h0, isE]
 ·
  by_cases h1 : 1 ≤ d ∧ d ≤ 1000000
  ·
   by_cases h2 : -1000000 ≤ n ∧ n ≤ 1000000
   ·
    obtain ⟨K, hK⟩ := l01Gcd_eq n d (by omega) (by omega)
    refine ⟨K, fun k hk => ?_⟩
    unfold spec_l01End.f
    rw [if_neg h0, in_eq, in_eq, hK k hk, decide_eq_true h1, decide_eq_true h2]
    simp only [Option.bind_some, if_true]
    congr 1
    rw [Bool.eq_iff_iff]
    simp [isE, h0, h1, h2]
    omega
   ·
    refine ⟨0, fun k _ => ?_⟩
    unfold spec_l01End.f
    rw [if_neg h0, in_eq, in_eq, decide_eq_true h1, decide_eq_false h2]
    simp only [Option.bind_some, if_true]
    rw [if_neg (by simp), decide_eq_false]
    unfold isE; omega
  ·
   refine ⟨0, fun k _ => ?_⟩
   unfold spec_l01End.f
   rw [if_neg h0, in_eq, decide_eq_false h1]
   simp only [Option.bind_some]
   rw [if_neg (by simp), decide_eq_false]
   unfold isE; omega

theorem IsEnd_eq (n d : Int) : ∃ K, ∀ k, K ≤ k → impl_IsEnd.f k n d = some (decide (isE n d)) := by
 by_cases h0 : d = 0
 ·
  refine ⟨0, fun k _ => ?_⟩
  unfold impl_IsEnd.f
  rw [if_pos h0]
  congr 1
  by_cases h : n = 1
  ·
   simp [h, h0, isE]
  ·
   simp [h, h0, isE]
 ·
  obtain ⟨K1, hw⟩ := within_eq 1000000 (by omega) (by omega) [n, d] (by simp)
  have ew : allB 1000000 [n, d] = decide ((-1000000 ≤ n ∧ n ≤ 1000000) ∧ -1000000 ≤ d ∧ d ≤ 1000000) := by simp [allB]
  rw [ew] at hw
  by_cases h1 : (-1000000 ≤ n ∧ n ≤ 1000000) ∧ -1000000 ≤ d ∧ d ≤ 1000000
  ·
   obtain ⟨K2, hK⟩ := gcd_eq n d (by omega) (by omega)
   refine ⟨K1 + K2, fun k hk => ?_⟩
   unfold impl_IsEnd.f
   rw [if_neg h0, hw k (by omega), decide_eq_true h1, hK k (by omega)]
   simp only [Option.bind_some, if_true]
   by_cases h2 : d > 0
   ·
    rw [if_pos h2]
    congr 1
    rw [Bool.eq_iff_iff]
    simp [isE, h0, h1]
    omega
   ·
    rw [if_neg h2, decide_eq_false]
    unfold isE; omega
  ·
   refine ⟨K1, fun k hk => ?_⟩
   unfold impl_IsEnd.f
   rw [if_neg h0, hw k (by omega), decide_eq_false h1]
   simp only [Option.bind_some]
   rw [if_neg (by simp), decide_eq_false]
   unfold isE; omega

def eOk (x : S28) : Bool := decide (isE x.f0 x.f1)
theorem rdE (l : List S28) (i : Nat) (h : i < l.length) : rd_T28 l (i : Int) = l[i]'h := by
 unfold rd_T28; simp [List.getD_eq_getElem?_getD, h]
/-- an end is none of those ahead of it -/
def difAt (l : List S28) (i : Nat) : Bool := (l.take i).all fun x => !(x.f0 == (rd_T28 l i).f0 && x.f1 == (rd_T28 l i).f1)
def difFrom (l : List S28) : Nat → Nat → Bool
 | 0, _ => true
 | d + 1, i => difAt l i && difFrom l d (i + 1)
def dif (l : List S28) : Bool := difFrom l l.length 0

theorem areEnds_eq (l : List S28) (hl : l.length ≤ 1000) : ∃ K, ∀ k, K ≤ k → impl_areEnds.f k l = some (l.all eOk) := by
 have go : ∀ (d i : Nat), i + d = l.length → ∃ K, ∀ k, K ≤ k → impl_areEnds.l0 k l l.length i = some ((l.drop i).all eOk) := by
  intro d
  induction d with
  | zero =>
   intro i hi
   refine ⟨1, fun k hk => ?_⟩
   obtain ⟨k, rfl⟩ : ∃ m, k = m + 1 := ⟨k - 1, by omega⟩
   simp only [impl_areEnds.l0]
   rw [if_neg (by omega), List.drop_eq_nil_of_le (by omega)]; rfl
  | succ d ih =>
   intro i hi
   obtain ⟨K1, h1⟩ := ih (i + 1) (by omega)
   obtain ⟨K2, h2⟩ := IsEnd_eq (l[i]'(by omega)).f0 (l[i]'(by omega)).f1
   refine ⟨K1 + K2 + 1, fun k hk => ?_⟩
   obtain ⟨k, rfl⟩ : ∃ m, k = m + 1 := ⟨k - 1, by omega⟩
   simp only [impl_areEnds.l0]
   rw [if_pos (by omega), if_pos (by omega), if_pos (by omega), rdE l i (by omega), h2 k (by omega), all_drop eOk l i (by omega), w64 (by omega) (by omega), show ((i : Int) + 1) = ((i + 1 : Nat) : Int) from by omega, h1 k (by omega)]
   simp only [Option.bind_some]
   show _ = some (decide (isE _ _) && _)
   by_cases h : isE (l[i]'(by omega)).f0 (l[i]'(by omega)).f1
   ·
    rw [decide_eq_true h]; simp
   ·
    rw [decide_eq_false h]; simp
 obtain ⟨K, h⟩ := go l.length 0 (by omega)
 exact ⟨K, fun k hk => by have := h k hk; simpa [impl_areEnds.f] using this⟩

theorem l05Different_eq (l : List S28) (hl : l.length ≤ 1000) : ∃ K, ∀ k, K ≤ k → spec_l05Different.f k l = some (dif l) := by
 have l1 : ∀ (d k i j : Nat), j + d = i → i < l.length → spec_l05Different.l1 (k + d + 1) l i j = if ((l.take i).drop j).all (fun x => !(x.f0 == (rd_T28 l i).f0 && x.f1 == (rd_T28 l i).f1)) = true then spec_l05Different.l0 k l ((i + 1 : Nat) : Int) else some false := by
  intro d
  induction d with
  | zero =>
   intro k i j hj hi
   simp only [spec_l05Different.l1]
   rw [if_neg (by omega), List.drop_eq_nil_of_le (by simp; omega), w64 (by omega) (by omega)]; rfl
  | succ d ih =>
   intro k i j hj hi
   have hlt : j < (l.take i).length := by simp; omega
   rw [show k + (d + 1) + 1 = (k + d + 1) + 1 from rfl, spec_l05Different.l1, all_drop _ _ j hlt]
   rw [if_pos (by omega), if_pos (by omega), if_pos (by omega), if_pos (by omega), if_pos (by omega), w64 (by omega) (by omega)]
   have := ih k i (j + 1) (by omega) hi
   rw [show ((j : Int) + 1) = ((j + 1 : Nat) : Int) from by omega, this, rdE l j (by omega)]
   have e : (l.take i)[j]'hlt = l[j]'(by omega) := List.getElem_take
   rw [e]
   by_cases h : ((rd_T28 l i).f0 == (l[j]'(by omega)).f0 && ((rd_T28 l i).f1 == (l[j]'(by omega)).f1)) = true
   ·
    rw [if_pos h]
    have h' : ((l[j]'(by omega)).f0 == (rd_T28 l i).f0 && ((l[j]'(by omega)).f1 == (rd_T28 l i).f1)) = true := by
     simp only [Bool.and_eq_true, beq_iff_eq] at h ⊢; exact ⟨h.1.symm, h.2.symm⟩
    rw [h']; simp
   ·
    rw [if_neg h]
    have h' : ((l[j]'(by omega)).f0 == (rd_T28 l i).f0 && ((l[j]'(by omega)).f1 == (rd_T28 l i).f1)) = false := by
     rw [Bool.eq_false_iff]; intro h2; apply h
     simp only [Bool.and_eq_true, beq_iff_eq] at h2 ⊢; exact ⟨h2.1.symm, h2.2.symm⟩
    rw [h']; simp
 have l0 : ∀ (d i k : Nat), i + d = l.length → (l.length + 3) * d + 2 ≤ k → spec_l05Different.l0 k l i = some (difFrom l d i) := by
  intro d
  induction d with
  | zero =>
   intro i k hi hk
   obtain ⟨k, rfl⟩ : ∃ m, k = m + 1 := ⟨k - 1, by omega⟩
   simp only [spec_l05Different.l0]
   rw [if_neg (by omega)]; rfl
  | succ d ih =>
   intro i k hi hk
   rw [Nat.mul_succ] at hk
   obtain ⟨k, rfl⟩ : ∃ m, k = (m + i + 1) + 1 := ⟨k - i - 2, by omega⟩
   simp only [spec_l05Different.l0]
   rw [if_pos (by omega)]
   have := l1 i k i 0 (by omega) (by omega)
   rw [show ((0 : Nat) : Int) = 0 from rfl, List.drop_zero] at this
   rw [this]
   simp only [difFrom]
   unfold difAt
   split
   ·
    rename_i h; rw [h, ih (i + 1) k (by omega) (by omega)]; rfl
   ·
    rename_i h; rw [Bool.eq_false_iff.mpr h]; rfl
 exact ⟨(l.length + 3) * l.length + 2, fun k hk => by
  have := l0 l.length 0 k (by omega) hk
  simpa [spec_l05Different.f, dif] using this⟩

theorem l05Code_l0 (l : List S28) (hl : l.length ≤ 1000) : ∃ K, ∀ k, K ≤ k → spec_l05Code.l0 k l 0 = some (if l.all eOk = true then (if dif l = true then 0 else 5) else 1) := by
 obtain ⟨K0, h0⟩ := l05Different_eq l hl
 have go : ∀ (d i : Nat), i + d = l.length → ∃ K, ∀ k, K ≤ k → spec_l05Code.l0 k l i = some (if (l.drop i).all eOk = true then (if dif l = true then 0 else 5) else 1) := by
  intro d
  induction d with
  | zero =>
   intro i hi
   refine ⟨K0 + 1, fun k hk => ?_⟩
   obtain ⟨k, rfl⟩ : ∃ m, k = m + 1 := ⟨k - 1, by omega⟩
   simp only [spec_l05Code.l0]
   rw [if_neg (by omega), List.drop_eq_nil_of_le (by omega), h0 k (by omega)]
   simp only [Option.bind_some, List.all_nil, if_true]
   split <;> rfl
  | succ d ih =>
   intro i hi
   obtain ⟨K1, h1⟩ := ih (i + 1) (by omega)
   obtain ⟨K2, h2⟩ := l01End_eq (l[i]'(by omega)).f0 (l[i]'(by omega)).f1
   refine ⟨K1 + K2 + 1, fun k hk => ?_⟩
   obtain ⟨k, rfl⟩ : ∃ m, k = m + 1 := ⟨k - 1, by omega⟩
   simp only [spec_l05Code.l0]
   rw [if_pos (by omega), if_pos (by omega), rdE l i (by omega), h2 k (by omega), all_drop eOk l i (by omega), w64 (by omega) (by omega), show ((i : Int) + 1) = ((i + 1 : Nat) : Int) from by omega, h1 k (by omega)]
   simp only [Option.bind_some]
   show _ = some (if (decide (isE _ _) && _) = true then _ else _)
   by_cases h : isE (l[i]'(by omega)).f0 (l[i]'(by omega)).f1
   ·
    rw [decide_eq_true h]; simp
   ·
    rw [decide_eq_false h]; simp
 obtain ⟨K, h⟩ := go l.length 0 (by omega)
 exact ⟨K, fun k hk => by have := h k hk; simpa using this⟩

theorem isE_bd {n d : Int} (h : isE n d) : -1000000 ≤ n ∧ n ≤ 1000000 ∧ 0 ≤ d ∧ d ≤ 1000000 := by unfold isE at h; omega
theorem mul_bd {a b : Int} (h1 : -1000000 ≤ a) (h2 : a ≤ 1000000) (h3 : -1000000 ≤ b) (h4 : b ≤ 1000000) : -1000000000000 ≤ a * b ∧ a * b ≤ 1000000000000 := by
 have h : (a * b).natAbs ≤ 1000000 * 1000000 := by rw [Int.natAbs_mul]; exact Nat.mul_le_mul (by omega) (by omega)
 omega
def crs (n1 d1 n2 d2 : Int) : Int := n1 * d2 - n2 * d1
theorem crs_bd {n1 d1 n2 d2 : Int} (h1 : isE n1 d1) (h2 : isE n2 d2) : (crs n1 d1 n2 d2).natAbs ≤ 2000000000000 := by
 have a := isE_bd h1; have b := isE_bd h2
 have c := mul_bd (a := n1) (b := d2) (by omega) (by omega) (by omega) (by omega)
 have d := mul_bd (a := n2) (b := d1) (by omega) (by omega) (by omega) (by omega)
 unfold crs; omega
/-- two ends are the same if their cross is 0 -/
theorem crs_zero {n1 d1 n2 d2 : Int} (h1 : isE n1 d1) (h2 : isE n2 d2) (h : crs n1 d1 n2 d2 = 0) : n1 = n2 ∧ d1 = d2 := by
 unfold crs at h
 rcases h1 with ⟨a1, a2⟩ | ⟨a1, a2, a3, a4, a5⟩
 ·
  rcases h2 with ⟨b1, b2⟩ | ⟨b1, b2, b3, b4, b5⟩
  ·
   omega
  ·
   subst a1 a2; simp at h; omega
 ·
  rcases h2 with ⟨b1, b2⟩ | ⟨b1, b2, b3, b4, b5⟩
  ·
   subst b1 b2; simp at h; omega
  ·
   have e : n1 * d2 = n2 * d1 := by omega
   have e1 : d1 ∣ d2 := PM.dvd_of_dvd_mul_right_of_gcd_one (a := d1) (b := n1) (c := d2) ⟨n2, by rw [e, Int.mul_comm]⟩ (by rw [Int.gcd_comm]; exact a5)
   have e2 : d2 ∣ d1 := PM.dvd_of_dvd_mul_right_of_gcd_one (a := d2) (b := n2) (c := d1) ⟨n1, by rw [← e, Int.mul_comm]⟩ (by rw [Int.gcd_comm]; exact b5)
   have e3 : d1 = d2 := Int.dvd_antisymm (by omega) (by omega) e1 e2
   subst e3
   exact ⟨Int.eq_of_mul_eq_mul_right (by omega) e, rfl⟩

theorem l05Cross_eq {n1 d1 n2 d2 : Int} (h1 : isE n1 d1) (h2 : isE n2 d2) : spec_l05Cross.f n1 d1 n2 d2 = some (crs n1 d1 n2 d2) := by
 have a := isE_bd h1; have b := isE_bd h2
 have c := mul_bd (a := n1) (b := d2) (by omega) (by omega) (by omega) (by omega)
 have d := mul_bd (a := n2) (b := d1) (by omega) (by omega) (by omega) (by omega)
 unfold spec_l05Cross.f crs
 rw [w64 (n := n1 * d2) (by omega) (by omega), w64 (n := n2 * d1) (by omega) (by omega), w64 (by omega) (by omega)]

theorem cross_eq {n1 d1 n2 d2 : Int} (h1 : isE n1 d1) (h2 : isE n2 d2) : impl_cross.f n1 d1 n2 d2 = some (crs n1 d1 n2 d2) := by
 have a := isE_bd h1; have b := isE_bd h2
 have c := mul_bd (a := n1) (b := d2) (by omega) (by omega) (by omega) (by omega)
 have d := mul_bd (a := n2) (b := d1) (by omega) (by omega) (by omega) (by omega)
 unfold impl_cross.f crs
 rw [w64 (n := n1 * d2) (by omega) (by omega), w64 (n := n2 * d1) (by omega) (by omega), w64 (by omega) (by omega)]

def gapz (p n1 d1 n2 d2 : Int) : Int := (vl p (crs n1 d1 n2 d2) : Int) - vl p d1 - vl p d2

theorem l05Gap_eq {p n1 d1 n2 d2 : Int} (hp : Pr p) (h1 : isE n1 d1) (h2 : isE n2 d2) (hd1 : d1 ≠ 0) (hd2 : d2 ≠ 0) (hne : ¬ (n1 = n2 ∧ d1 = d2)) : ∀ k, 70 ≤ k → spec_l05Gap.f k p n1 d1 n2 d2 = some (gapz p n1 d1 n2 d2) := by
 intro k hk
 have a := isE_bd h1; have b := isE_bd h2
 have hc : crs n1 d1 n2 d2 ≠ 0 := fun h => hne (crs_zero h1 h2 h)
 have hb := crs_bd h1 h2
 have v1 := vl_le63 hp hc (by omega)
 have v2 := vl_le63 hp hd1 (by omega)
 have v3 := vl_le63 hp hd2 (by omega)
 unfold spec_l05Gap.f gapz
 rw [l05Cross_eq h1 h2]
 simp only [Option.bind_some]
 rw [val_eq p _ hp hc (by omega) k hk]
 simp only [Option.bind_some]
 rw [val_eq p _ hp hd1 (by omega) k hk]
 simp only [Option.bind_some]
 rw [val_eq p _ hp hd2 (by omega) k hk]
 simp only [Option.bind_some]
 rw [w64 (n := (vl p (crs n1 d1 n2 d2) : Int) - vl p d1) (by omega) (by omega), w64 (by omega) (by omega)]

theorem gap_eq {p n1 d1 n2 d2 : Int} (hp : Pr p) (h1 : isE n1 d1) (h2 : isE n2 d2) (hd1 : d1 ≠ 0) (hd2 : d2 ≠ 0) (hne : ¬ (n1 = n2 ∧ d1 = d2)) : ∀ k, 70 ≤ k → impl_gap.f k p n1 d1 n2 d2 = some (gapz p n1 d1 n2 d2) := by
 intro k hk
 have a := isE_bd h1; have b := isE_bd h2
 have hc : crs n1 d1 n2 d2 ≠ 0 := fun h => hne (crs_zero h1 h2 h)
 have hb := crs_bd h1 h2
 have v1 := vl_le63 hp hc (by omega)
 have v2 := vl_le63 hp hd1 (by omega)
 have v3 := vl_le63 hp hd2 (by omega)
 unfold impl_gap.f gapz
 rw [cross_eq h1 h2]
 simp only [Option.bind_some]
 rw [valuation_eq p _ hp (by omega) k hk, vz_of_ne hc]
 simp only [Option.bind_some]
 rw [valuation_eq p _ hp (by omega) k hk, vz_of_ne hd1]
 simp only [Option.bind_some]
 rw [valuation_eq p _ hp (by omega) k hk, vz_of_ne hd2]
 simp only [Option.bind_some]
 rw [w64 (n := (vl p (crs n1 d1 n2 d2) : Int) - vl p d1) (by omega) (by omega), w64 (by omega) (by omega)]

theorem okSplit (p : Int) (lv top dn : Int) : PM.Ok p ⟨lv, top, dn⟩ ↔ (-6 ≤ lv ∧ lv ≤ 6 ∧ 0 ≤ dn ∧ dn ≤ 6) ∧ ((lv + dn ≤ 0 ∧ top = 0 ∧ dn = 0) ∨ (0 < lv + dn ∧ 0 ≤ top ∧ top < pw p (lv + dn) ∧ (dn = 0 ∨ ¬ p ∣ top))) := by
 unfold PM.Ok; simp only; constructor
 ·
  intro ⟨a, b, c, d, e⟩; exact ⟨⟨a, b, c, d⟩, e⟩
 ·
  intro ⟨⟨a, b, c, d⟩, e⟩; exact ⟨a, b, c, d, e⟩
theorem l01Is_eq (p lv top dn : Int) : ∀ k, 32 ≤ k → spec_l01Is.f k p lv top dn = some (decide (Pr p ∧ PM.Ok p ⟨lv, top, dn⟩)) := by
 intro k hk
 obtain ⟨k, rfl⟩ : ∃ m, k = m + 1 := ⟨k - 1, by omega⟩
 have jt : spec_l01Is.j0 (k + 1) p true lv top dn = some false := by simp [spec_l01Is.j0]
 unfold spec_l01Is.f
 rcases prime_cases p with ⟨h, hp⟩ | ⟨h, hp⟩
 ·
  have hp : Pr p := hp
  rw [h, in_eq, in_eq]
  simp only [Option.bind_some, if_true]
  by_cases h1 : -6 ≤ lv ∧ lv ≤ 6
  ·
   rw [decide_eq_true h1, if_pos rfl]
   by_cases h2 : 0 ≤ dn ∧ dn ≤ 6
   ·
    rw [decide_eq_true h2]
    simp only [Bool.not_true, spec_l01Is.j0]
    rw [if_neg (by simp), w64 (by omega) (by omega)]
    by_cases h3 : lv + dn ≤ 0
    ·
     rw [if_pos h3]
     by_cases h4 : top = 0
     ·
      rw [if_pos h4]
      congr 1; rw [Bool.eq_iff_iff]
      simp only [decide_eq_true_eq, okSplit, beq_iff_eq]
      constructor
      ·
       intro h5; exact ⟨hp, ⟨by omega, Or.inl ⟨h3, h4, h5⟩⟩⟩
      ·
       intro ⟨_, _, h5⟩; omega
     ·
      rw [if_neg h4, decide_eq_false]
      rw [okSplit]; intro ⟨_, _, h5⟩; omega
    ·
     rw [if_neg h3, l01Power_eq p _ hp (by omega) (by omega) k (by omega)]
     have hb := pw_bd12 p (lv + dn) hp (by omega)
     simp only [Option.bind_some]
     rw [in_eq, w64 (by omega) (by omega)]
     simp only [Option.bind_some]
     by_cases h4 : 0 ≤ top ∧ top ≤ pw p (lv + dn) - 1
     ·
      rw [decide_eq_true h4, if_pos rfl]
      by_cases h5 : dn = 0
      ·
       rw [if_pos h5, decide_eq_true]
       rw [okSplit]; exact ⟨hp, by omega, Or.inr ⟨by omega, by omega, by omega, Or.inl h5⟩⟩
      ·
       have hp2 := hp.pos
       rw [if_neg h5, if_neg (by omega)]
       congr 1; rw [Bool.eq_iff_iff]
       simp only [decide_eq_true_eq, okSplit, bne_iff_ne, ne_eq, tmod_zero_iff]
       constructor
       ·
        intro h6; exact ⟨hp, by omega, Or.inr ⟨by omega, by omega, by omega, Or.inr h6⟩⟩
       ·
        intro ⟨_, _, h6⟩ h7
        rcases h6 with h6 | ⟨_, _, _, h6⟩
        ·
         omega
        ·
         rcases h6 with h6 | h6
         ·
          exact h5 h6
         ·
          exact h6 h7
     ·
      rw [decide_eq_false h4, if_neg (by simp), decide_eq_false]
      rw [okSplit]; intro ⟨_, _, h5⟩; omega
   ·
    rw [decide_eq_false h2, Bool.not_false, jt, decide_eq_false]
    rw [okSplit]; intro ⟨_, h5, _⟩; omega
  ·
   rw [decide_eq_false h1, if_neg (by simp), jt, decide_eq_false]
   rw [okSplit]; intro ⟨_, h5, _⟩; omega
 ·
  rw [h]
  simp only [Option.bind_some]
  rw [if_neg (by simp), jt, decide_eq_false]
  intro ⟨h1, _⟩; exact hp h1

def bOk (p : Int) (x : S25) : Bool := decide (PM.Ok p ⟨x.f0, x.f1, x.f2⟩)
theorem rdB (l : List S25) (i : Nat) (h : i < l.length) : rd_T25 l (i : Int) = l[i]'h := by
 unfold rd_T25; simp [List.getD_eq_getElem?_getD, h]

theorem l01Code_eq (p : Int) (l : List S25) (hl : l.length ≤ 1000) : ∃ K, ∀ k, K ≤ k → spec_l01Code.f k p l = some (if Pr p ∧ l.all (bOk p) = true then 0 else 1) := by
 rcases prime_cases p with ⟨h, hp⟩ | ⟨h, hp⟩
 ·
  have hp : Pr p := hp
  have go : ∀ (d i k : Nat), i + d = l.length → d + 34 ≤ k → spec_l01Code.l0 k p l i = some (if (l.drop i).all (bOk p) = true then 0 else 1) := by
   intro d
   induction d with
   | zero =>
    intro i k hi hk
    obtain ⟨k, rfl⟩ : ∃ m, k = m + 1 := ⟨k - 1, by omega⟩
    simp only [spec_l01Code.l0]
    rw [if_neg (by omega), List.drop_eq_nil_of_le (by omega)]; rfl
   | succ d ih =>
    intro i k hi hk
    obtain ⟨k, rfl⟩ : ∃ m, k = m + 1 := ⟨k - 1, by omega⟩
    simp only [spec_l01Code.l0]
    rw [if_pos (by omega), if_pos (by omega), rdB l i (by omega), l01Is_eq _ _ _ _ k (by omega), all_drop (bOk p) l i (by omega), w64 (by omega) (by omega), show ((i : Int) + 1) = ((i + 1 : Nat) : Int) from by omega, ih (i + 1) k (by omega) (by omega)]
    simp only [Option.bind_some]
    show _ = some (if (decide (PM.Ok _ _) && _) = true then _ else _)
    by_cases h : PM.Ok p ⟨(l[i]'(by omega)).f0, (l[i]'(by omega)).f1, (l[i]'(by omega)).f2⟩
    ·
     rw [decide_eq_true h, decide_eq_true ⟨hp, h⟩]; simp
    ·
     rw [decide_eq_false h, decide_eq_false (fun g => h g.2)]; simp
  refine ⟨l.length + 34, fun k hk => ?_⟩
  unfold spec_l01Code.f
  rw [h]
  simp only [Option.bind_some, if_true]
  have := go l.length 0 k (by omega) (by omega)
  rw [show ((0 : Nat) : Int) = 0 from rfl, List.drop_zero] at this
  rw [this]
  by_cases g : l.all (bOk p) = true
  ·
   rw [if_pos g, if_pos ⟨hp, g⟩]
  ·
   rw [if_neg g, if_neg (fun z => g z.2)]
 ·
  refine ⟨0, fun k _ => ?_⟩
  unfold spec_l01Code.f
  rw [h]
  simp only [Option.bind_some]
  rw [if_neg (by simp), if_neg (fun z => hp z.1)]

theorem l05Code_eq (p : Int) (l : List S25) (m : List S28) (hl : l.length ≤ 1000) (hm : m.length ≤ 1000) : ∃ K, ∀ k, K ≤ k → spec_l05Code.f k p l m = some (if (Pr p ∧ l.all (bOk p) = true) ∧ m.all eOk = true then (if dif m = true then 0 else 5) else 1) := by
 obtain ⟨K1, h1⟩ := l01Code_eq p l hl
 obtain ⟨K2, h2⟩ := l05Code_l0 m hm
 refine ⟨K1 + K2, fun k hk => ?_⟩
 unfold spec_l05Code.f
 rw [h1 k (by omega)]
 simp only [Option.bind_some]
 by_cases c1 : Pr p ∧ l.all (bOk p) = true
 ·
  rw [if_pos c1, if_pos rfl, h2 k (by omega)]
  by_cases c2 : m.all eOk = true
  ·
   rw [if_pos c2, if_pos (show (Pr p ∧ l.all (bOk p) = true) ∧ m.all eOk = true from ⟨c1, c2⟩)]
  ·
   rw [if_neg c2, if_neg (fun z => c2 z.2)]
 ·
  rw [if_neg c1, if_neg (by omega), if_neg (fun z => c1 z.1)]
theorem contains_eq (l : List S28) (hl : l.length ≤ 1000) (a b : Int) : ∀ k, l.length + 1 ≤ k → impl_End_73.f k l a b = some (!(l.all fun x => !(x.f0 == a && x.f1 == b))) := by
 have go : ∀ (d k i : Nat), i + d = l.length → d < k → ∃ r, impl_End_87.l0 k l l.length i a b = some r ∧ -1 ≤ r ∧ (r ≥ 0 ↔ ¬ ((l.drop i).all fun x => !(x.f0 == a && x.f1 == b)) = true) := by
  intro d
  induction d with
  | zero =>
   intro k i hi hk
   obtain ⟨k, rfl⟩ : ∃ m, k = m + 1 := ⟨k - 1, by omega⟩
   refine ⟨-1, ?_, by omega, ?_⟩
   ·
    simp only [impl_End_87.l0]
    rw [if_neg (by omega)]
   ·
    rw [List.drop_eq_nil_of_le (by omega)]; simp
  | succ d ih =>
   intro k i hi hk
   obtain ⟨k, rfl⟩ : ∃ m, k = m + 1 := ⟨k - 1, by omega⟩
   rw [all_drop _ l i (by omega)]
   by_cases h : (a == (l[i]'(by omega)).f0 && (b == (l[i]'(by omega)).f1)) = true
   ·
    refine ⟨i, ?_, by omega, ?_⟩
    ·
     simp only [impl_End_87.l0]
     rw [if_pos (by omega), if_pos (by omega), if_pos (by omega), rdE l i (by omega), if_pos h]
    ·
     have h' : ((l[i]'(by omega)).f0 == a && ((l[i]'(by omega)).f1 == b)) = true := by
      simp only [Bool.and_eq_true, beq_iff_eq] at h ⊢; exact ⟨h.1.symm, h.2.symm⟩
     rw [h']; simp
   ·
    obtain ⟨r, h1, h2, h3⟩ := ih k (i + 1) (by omega) (by omega)
    refine ⟨r, ?_, h2, ?_⟩
    ·
     simp only [impl_End_87.l0]
     rw [if_pos (by omega), if_pos (by omega), if_pos (by omega), rdE l i (by omega), if_neg h, w64 (by omega) (by omega), show ((i : Int) + 1) = ((i + 1 : Nat) : Int) from by omega]
     exact h1
    ·
     have h' : ((l[i]'(by omega)).f0 == a && ((l[i]'(by omega)).f1 == b)) = false := by
      rw [Bool.eq_false_iff]; intro h2; apply h
      simp only [Bool.and_eq_true, beq_iff_eq] at h2 ⊢; exact ⟨h2.1.symm, h2.2.symm⟩
     rw [h', h3]; simp
 intro k hk
 obtain ⟨r, h1, h2, h3⟩ := go l.length k 0 (by omega) (by omega)
 unfold impl_End_73.f impl_End_87.f
 rw [show ((0 : Nat) : Int) = 0 from rfl] at h1
 rw [h1]
 simp only [Option.bind_some]
 rw [List.drop_zero] at h3
 congr 1
 by_cases c : r ≥ 0
 ·
  rw [decide_eq_true c, Bool.eq_false_iff.mpr (h3.1 c)]; rfl
 ·
  rw [decide_eq_false c, Decidable.not_not.1 (fun h => c (h3.2 h))]; rfl
theorem areDifferent_eq (l : List S28) (hl : l.length ≤ 1000) : ∃ K, ∀ k, K ≤ k → impl_areDifferent.f k l = some (dif l) := by
 have go : ∀ (d k i : Nat), i + d = l.length → l.length + 2 + d ≤ k → impl_areDifferent.l0 k l l l.length i = some (difFrom l d i) := by
  intro d
  induction d with
  | zero =>
   intro k i hi hk
   obtain ⟨k, rfl⟩ : ∃ m, k = m + 1 := ⟨k - 1, by omega⟩
   simp only [impl_areDifferent.l0]
   rw [if_neg (by omega)]; rfl
  | succ d ih =>
   intro k i hi hk
   obtain ⟨k, rfl⟩ : ∃ m, k = m + 1 := ⟨k - 1, by omega⟩
   simp only [impl_areDifferent.l0]
   rw [if_pos (by omega), if_pos (by omega), if_pos (by omega), if_pos (by omega), show ((i : Int).toNat) = i from by omega, contains_eq _ (by simp; omega) _ _ k (by simp; omega), w64 (by omega) (by omega), show ((i : Int) + 1) = ((i + 1 : Nat) : Int) from by omega, ih k (i + 1) (by omega) (by omega)]
   simp only [Option.bind_some, difFrom]
   unfold difAt
   cases ((l.take i).all fun x => !(x.f0 == (rd_T28 l i).f0 && x.f1 == (rd_T28 l i).f1)) <;> simp
 exact ⟨2 * l.length + 4, fun k hk => by
  have := go l.length k 0 (by omega) (by omega)
  simpa [impl_areDifferent.f, dif] using this⟩

theorem mul_bd2 {a b : Int} (A B : Int) (h1 : -A ≤ a) (h2 : a ≤ A) (h3 : -B ≤ b) (h4 : b ≤ B) : -(A * B) ≤ a * b ∧ a * b ≤ A * B := by
 have hA : 0 ≤ A := by omega
 have hB : 0 ≤ B := by omega
 have h : (a * b).natAbs ≤ A.natAbs * B.natAbs := by
  rw [Int.natAbs_mul]; exact Nat.mul_le_mul (by omega) (by omega)
 rw [← Int.natAbs_mul] at h
 have : 0 ≤ A * B := Int.mul_nonneg hA hB
 omega
theorem mx_max (a b : Int) : mx a b = max a b := by unfold mx; split <;> omega
theorem u64w (n : Int) : IntKind.u64.wrap n = n % 18446744073709551616 := by rw [IntKind.wrap_u64]
theorem u64s {n : Int} (h0 : 0 ≤ n) (h1 : n < 18446744073709551616) : IntKind.u64.wrap n = n := by rw [u64w]; omega
theorem and_low {a : Int} (h0 : 0 ≤ a) (h1 : a < 18446744073709551616) : Go.bits .and .u64 a 4294967295 = a % 4294967296 := by
 obtain ⟨n, rfl⟩ := Int.eq_ofNat_of_zero_le h0
 rw [show (4294967295 : Int) = ((4294967295 : Nat) : Int) from rfl, Go.bits_and_u64_nat n 4294967295 (by omega) (by omega)]
 rw [show (4294967295 : Nat) = 2 ^ 32 - 1 from rfl, Nat.and_two_pow_sub_one_eq_mod]
 omega
theorem or_sum {a b : Int} (s : Nat) (h0 : 0 ≤ a) (h1 : 0 ≤ b) (h2 : b < 2 ^ s) (h3 : a * 2 ^ s < 18446744073709551616) (hs : s ≤ 63) : Go.bits .or .u64 (a * 2 ^ s) b = a * 2 ^ s + b := by
 obtain ⟨n, rfl⟩ := Int.eq_ofNat_of_zero_le h0
 obtain ⟨m, rfl⟩ := Int.eq_ofNat_of_zero_le h1
 have e2 : m < 2 ^ s := by
  have : ((2 ^ s : Nat) : Int) = (2 : Int) ^ s := by simp
  omega
 have e3 : (2 : Nat) ^ s ≤ 2 ^ 63 := Nat.pow_le_pow_right (by omega) hs
 have e4 : ((n * 2 ^ s : Nat) : Int) = (n : Int) * 2 ^ s := by simp
 rw [← e4] at h3 ⊢
 rw [Go.bits_or_u64_nat _ _ (by omega) (by omega), Nat.mul_comm, ← Nat.two_pow_add_eq_or_of_lt e2]
 omega
theorem bitLen_bd : ∀ (x : Nat), x ≠ 0 → x < 2 ^ 64 → 1 ≤ Lib.bitLen x ∧ 2 ^ (Lib.bitLen x - 1) ≤ x ∧ x < 2 ^ Lib.bitLen x := by
 intro x
 induction x using Nat.strongRecOn with
 | _ x ih =>
  intro h0 h1
  rw [Lib.bitLen_half x h0 h1]
  by_cases h2 : x / 2 = 0
  ·
   rw [h2, show Lib.bitLen 0 = 0 from rfl]
   have : x = 1 := by omega
   subst this; exact ⟨by omega, by decide, by decide⟩
  ·
   obtain ⟨a, b, c⟩ := ih (x / 2) (by omega) h2 (by omega)
   obtain ⟨l, hl⟩ : ∃ l, Lib.bitLen (x / 2) = l + 1 := ⟨Lib.bitLen (x / 2) - 1, by omega⟩
   rw [hl] at b c ⊢
   rw [show 1 + (l + 1) - 1 = (l + 1 - 1) + 1 by omega, show 1 + (l + 1) = (l + 1) + 1 by omega, Nat.pow_succ, Nat.pow_succ]
   omega
theorem div_l0 {yN s y1 y0 U u un0 : Int} (D : Dg U u y1 y0) : ∀ (m : Nat) (q r : Int) (k : Nat), 2 * m + 3 ≤ k → 4294967296 ≤ r + m * 2147483648 → 0 ≤ r → r < 4294967296 → r = U - q * y1 → dig U u y1 y0 ≤ q → q ≤ 4294967297 → ∃ k', k ≤ k' + (2 * m + 3) ∧ bits_Div64.l0 k yN s y1 y0 U u un0 q r = bits_Div64.j2 k' yN s y1 y0 U u un0 (dig U u y1 y0) := by
 intro m
 induction m with
 | zero => intro q r k _ h _ h2; omega
 | succ m ih =>
  intro q r k hk hm h0 h1 hr hq hq2
  have hn := D.nn
  have Da := D.a; have Db := D.b; have Dc := D.c; have Dd := D.d; have Dg := D.g; have Dh := D.h
  obtain ⟨k, rfl⟩ : ∃ j, k = j + 2 := ⟨k - 2, by omega⟩
  have e : bits_Div64.l0 (k + 2) yN s y1 y0 U u un0 q r = bits_Div64.j1 (k + 1) yN s y1 y0 U u un0 q r (decide (dig U u y1 y0 < q)) := by
   rw [show k + 2 = (k + 1) + 1 from rfl, bits_Div64.l0]
   by_cases hB : q ≥ 4294967296
   ·
    rw [if_pos hB, decide_eq_true (by have := D.top; omega)]
   ·
    rw [if_neg hB]
    have hc := D.cond hr
    have b1 : q * y0 ≤ 4294967295 * 4294967295 := Int.mul_le_mul (by omega) (by omega) (by omega) (by omega)
    have b0 : 0 ≤ q * y0 := Int.mul_nonneg (by omega) (by omega)
    rw [u64s (n := q * y0) b0 (by omega), u64s (n := 4294967296 * r) (by omega) (by omega), u64s (n := 4294967296 * r + u) (by omega) (by omega)]
    rw [decide_eq_decide.mpr hc.symm]
  rw [e, bits_Div64.j1]
  by_cases hc : dig U u y1 y0 < q
  ·
   rw [decide_eq_true hc, if_pos rfl, u64s (n := r + y1) (by omega) (by omega), u64s (n := q - 1) (by omega) (by omega)]
   have hr' : r + y1 = U - (q - 1) * y1 := by rw [Int.sub_mul]; omega
   by_cases hb : r + y1 ≥ 4294967296
   ·
    rw [if_pos hb]
    have := D.brk hr' hb (by omega)
    exact ⟨k, by omega, by rw [show q - 1 = dig U u y1 y0 by omega]⟩
   ·
    rw [if_neg hb]
    obtain ⟨k', a, b⟩ := ih (q - 1) (r + y1) k (by omega) (by omega) (by omega) (by omega) hr' (by omega) (by omega)
    exact ⟨k', by omega, b⟩
  ·
   rw [decide_eq_false hc, if_neg (by simp)]
   exact ⟨k, by omega, by rw [show q = dig U u y1 y0 by omega]⟩
theorem div_l1 {yN s y1 y0 R un0 q1 : Int} (hs : 0 ≤ s) (D : Dg R un0 y1 y0) : ∀ (m : Nat) (q r : Int) (k : Nat), 2 * m + 3 ≤ k → 4294967296 ≤ r + m * 2147483648 → 0 ≤ r → r < 4294967296 → r = R - q * y1 → dig R un0 y1 y0 ≤ q → q ≤ 4294967297 → bits_Div64.l1 k yN s y1 y0 un0 q1 r R q = some (IntKind.u64.wrap ((IntKind.u64.wrap (q1 * 4294967296)) + dig R un0 y1 y0), shr .u64 (IntKind.u64.wrap ((IntKind.u64.wrap ((IntKind.u64.wrap (R * 4294967296)) + un0)) - (IntKind.u64.wrap (dig R un0 y1 y0 * yN)))) s) := by
 intro m
 induction m with
 | zero => intro q r k _ h _ h2; omega
 | succ m ih =>
  intro q r k hk hm h0 h1 hr hq hq2
  have hn := D.nn
  have Da := D.a; have Db := D.b; have Dc := D.c; have Dd := D.d; have Dg := D.g; have Dh := D.h
  obtain ⟨k, rfl⟩ : ∃ j, k = j + 2 := ⟨k - 2, by omega⟩
  have e : bits_Div64.l1 (k + 2) yN s y1 y0 un0 q1 r R q = bits_Div64.j4 (k + 1) yN s y1 y0 un0 q1 r R q (decide (dig R un0 y1 y0 < q)) := by
   rw [show k + 2 = (k + 1) + 1 from rfl, bits_Div64.l1]
   by_cases hB : q ≥ 4294967296
   ·
    rw [if_pos hB, decide_eq_true (by have := D.top; omega)]
   ·
    rw [if_neg hB]
    have hc := D.cond hr
    have b1 : q * y0 ≤ 4294967295 * 4294967295 := Int.mul_le_mul (by omega) (by omega) (by omega) (by omega)
    have b0 : 0 ≤ q * y0 := Int.mul_nonneg (by omega) (by omega)
    rw [u64s (n := q * y0) b0 (by omega), u64s (n := 4294967296 * r) (by omega) (by omega), u64s (n := 4294967296 * r + un0) (by omega) (by omega)]
    rw [decide_eq_decide.mpr hc.symm]
  rw [e, bits_Div64.j4]
  by_cases hc : dig R un0 y1 y0 < q
  ·
   rw [decide_eq_true hc, if_pos rfl, u64s (n := r + y1) (by omega) (by omega), u64s (n := q - 1) (by omega) (by omega)]
   have hr' : r + y1 = R - (q - 1) * y1 := by rw [Int.sub_mul]; omega
   by_cases hb : r + y1 ≥ 4294967296
   ·
    rw [if_pos hb, if_pos hs]
    have := D.brk hr' hb (by omega)
    rw [show q - 1 = dig R un0 y1 y0 by omega]
   ·
    rw [if_neg hb]
    exact ih (q - 1) (r + y1) k (by omega) (by omega) (by omega) (by omega) hr' (by omega) (by omega)
  ·
   rw [decide_eq_false hc, if_neg (by simp), if_pos hs, show q = dig R un0 y1 y0 by omega]
theorem wr_sub (a b : Int) : IntKind.u64.wrap (IntKind.u64.wrap a - IntKind.u64.wrap b) = IntKind.u64.wrap (a - b) := by
 simp only [u64w]; omega
theorem wr_add (a b : Int) : IntKind.u64.wrap (IntKind.u64.wrap a + b) = IntKind.u64.wrap (a + b) := by
 simp only [u64w]; omega
theorem div64_eq {hi lo y : Int} (h0 : 0 ≤ hi) (h1 : hi < y) (h2 : y < 18446744073709551616) (h3 : 0 ≤ lo) (h4 : lo < 18446744073709551616) : ∀ k, 40 ≤ k → bits_Div64.f k hi lo y = some ((hi * 18446744073709551616 + lo) / y, (hi * 18446744073709551616 + lo) % y) := by
 intro k hk
 unfold bits_Div64.f
 rw [if_neg (by omega), if_neg (by omega)]
 by_cases hz : hi = 0
 ·
  subst hz
  rw [if_pos rfl, Int.tdiv_eq_ediv_of_nonneg h3, Int.tmod_eq_emod_of_nonneg h3]
  have a1 := Int.ediv_nonneg h3 (show 0 ≤ y by omega)
  have a2 := Int.ediv_le_self y h3
  rw [u64s a1 (by omega), show (0 : Int) * 18446744073709551616 + lo = lo by omega]
 ·
  rw [if_neg hz]
  have hb := bitLen_bd y.toNat (by omega) (by omega)
  have hle : Lib.bitLen y.toNat ≤ 64 := by
   rcases Nat.lt_or_ge 64 (Lib.bitLen y.toNat) with h | h
   ·
    have := Nat.pow_le_pow_right (show 0 < 2 by omega) (show 64 ≤ Lib.bitLen y.toNat - 1 by omega)
    omega
   ·
    exact h
  unfold bits_LeadingZeros64.f
  rw [if_pos (by omega)]
  simp only [Option.bind_some]
  obtain ⟨s, hs⟩ : ∃ s : Nat, s = 64 - Lib.bitLen y.toNat := ⟨_, rfl⟩
  rw [show (64 - (Lib.bitLen y.toNat : Int)) = (s : Int) by omega, u64s (n := (s : Int)) (by omega) (by omega), u64s (n := 64 - (s : Int)) (by omega) (by omega), if_pos (by omega), if_pos (by omega)]
  have hs63 : s ≤ 63 := by omega
  obtain ⟨P, hP⟩ : ∃ P : Int, P = 2 ^ s := ⟨_, rfl⟩
  obtain ⟨Q, hQ⟩ : ∃ Q : Int, Q = 2 ^ (64 - s) := ⟨_, rfl⟩
  have hPQ : P * Q = 18446744073709551616 := by
   rw [hP, hQ, ← Int.pow_add, show s + (64 - s) = 64 by omega]; decide
  have hP0 : 0 < P := by rw [hP]; exact Int.pow_pos (by omega)
  have hQ0 : 0 < Q := by rw [hQ]; exact Int.pow_pos (by omega)
  have hyP : 9223372036854775808 ≤ y * P ∧ y * P < 18446744073709551616 := by
   have e1 : y = ((y.toNat : Nat) : Int) := by omega
   have e2 : y * P = ((y.toNat * 2 ^ s : Nat) : Int) := by
    rw [hP]
    conv => lhs; rw [e1]
    simp
   have e3 : 2 ^ (Lib.bitLen y.toNat - 1) * 2 ^ s ≤ y.toNat * 2 ^ s := Nat.mul_le_mul_right _ hb.2.1
   have e4 : y.toNat * 2 ^ s < 2 ^ (Lib.bitLen y.toNat) * 2 ^ s := Nat.mul_lt_mul_of_pos_right hb.2.2 (Nat.pow_pos (by omega))
   rw [← Nat.pow_add, show Lib.bitLen y.toNat - 1 + s = 63 by omega] at e3
   rw [← Nat.pow_add, show Lib.bitLen y.toNat + s = 64 by omega] at e4
   rw [e2]; omega
  have sh : ∀ x : Int, shl .u64 x (s : Int) = (x * P) % 18446744073709551616 := by
   intro x; unfold shl
   rw [show IntKind.u64.bits = 64 from rfl, Int.toNat_natCast, Nat.min_eq_left (by omega), u64w, hP]
  have sr : ∀ x : Int, shr .u64 x (64 - (s : Int)) = x / Q := by
   intro x; unfold shr
   rw [show IntKind.u64.bits = 64 from rfl, show (64 - (s : Int)).toNat = 64 - s by omega, Nat.min_eq_left (by omega), hQ]
  have sr2 : ∀ x : Int, shr .u64 x (s : Int) = x / P := by
   intro x; unfold shr
   rw [show IntKind.u64.bits = 64 from rfl, Int.toNat_natCast, Nat.min_eq_left (by omega), hP]
  have hhi : hi * P < y * P := Int.mul_lt_mul_of_pos_right h1 hP0
  have hhi0 : 0 ≤ hi * P := Int.mul_nonneg h0 (by omega)
  have hhi1 : hi * P ≤ y * P - P := by
   have := Int.mul_le_mul_of_nonneg_right (show hi ≤ y - 1 by omega) (Int.le_of_lt hP0)
   rw [Int.sub_mul] at this; omega
  have hlQ0 : 0 ≤ lo / Q := Int.ediv_nonneg h3 (by omega)
  have hlQ : lo / Q < P := by rw [Int.ediv_lt_iff_lt_mul hQ0]; omega
  rw [sh, sh, sh, sr, Int.emod_eq_of_lt (a := y * P) (by omega) hyP.2, Int.emod_eq_of_lt (a := hi * P) hhi0 (by omega)]
  have hor : Go.bits .or .u64 (hi * P) (lo / Q) = hi * P + lo / Q := by
   rw [hP] at hlQ hhi hyP ⊢
   exact or_sum s h0 hlQ0 hlQ (by omega) hs63
  rw [hor, and_low (a := y * P) (by omega) hyP.2, and_low (Int.emod_nonneg _ (by omega)) (Int.emod_lt_of_pos _ (by omega))]
  obtain ⟨L, hL⟩ : ∃ L, L = (lo * P) % 18446744073709551616 := ⟨_, rfl⟩
  obtain ⟨U, hU⟩ : ∃ U, U = hi * P + lo / Q := ⟨_, rfl⟩
  have hL0 : 0 ≤ L := by rw [hL]; exact Int.emod_nonneg _ (by omega)
  have hL1 : L < 18446744073709551616 := by rw [hL]; exact Int.emod_lt_of_pos _ (by omega)
  rw [← hL, ← hU]
  obtain ⟨yN, hyN⟩ : ∃ yN, yN = y * P := ⟨_, rfl⟩
  rw [← hyN] at hyP hhi hhi1 ⊢
  obtain ⟨y1, hy1⟩ : ∃ y1, y1 = yN / 4294967296 := ⟨_, rfl⟩
  obtain ⟨y0, hy0⟩ : ∃ y0, y0 = yN % 4294967296 := ⟨_, rfl⟩
  obtain ⟨u1, hu1⟩ : ∃ u1, u1 = L / 4294967296 := ⟨_, rfl⟩
  obtain ⟨u0, hu0⟩ : ∃ u0, u0 = L % 4294967296 := ⟨_, rfl⟩
  rw [← hy1, ← hy0, ← hu1, ← hu0]
  have hyy : y1 * 4294967296 + y0 = yN := by omega
  have D1 : Dg U u1 y1 y0 := ⟨by omega, by omega, by omega, by omega, by omega, by omega, by omega, by omega⟩
  have hy1p : 0 < y1 := by omega
  have hU0 : 0 ≤ U := by omega
  obtain ⟨st1, st2⟩ := D1.start
  have em1 := Int.mul_ediv_add_emod U y1
  have em2 := Int.emod_nonneg U (b := y1) (by omega)
  have em3 := Int.emod_lt_of_pos U hy1p
  have hq0 := Int.ediv_nonneg hU0 (Int.le_of_lt hy1p)
  rw [Int.tdiv_eq_ediv_of_nonneg hU0, u64s (n := U / y1) hq0 (by omega)]
  have hqy : U / y1 * y1 = U - U % y1 := by rw [Int.mul_comm]; omega
  have hqn := Int.mul_nonneg hq0 (Int.le_of_lt hy1p)
  rw [u64s (n := U / y1 * y1) (by omega) (by omega), u64s (n := U - U / y1 * y1) (by omega) (by omega), if_neg (by omega)]
  obtain ⟨k', hk', e⟩ := div_l0 (yN := yN) (s := (s : Int)) (un0 := u0) D1 2 (U / y1) (U - U / y1 * y1) k (by omega) (by omega) (by omega) (by omega) rfl st1 st2
  rw [e]
  obtain ⟨k', rfl⟩ : ∃ j, k' = j + 1 := ⟨k' - 1, by omega⟩
  rw [bits_Div64.j2, if_neg (by omega)]
  have hT := D1.nn
  have hTt := D1.top
  have hrem := D1.rem
  rw [hyy] at hrem
  obtain ⟨R, hR⟩ : ∃ R, R = U * 4294967296 + u1 - dig U u1 y1 y0 * yN := ⟨_, rfl⟩
  have hW : IntKind.u64.wrap ((IntKind.u64.wrap ((IntKind.u64.wrap (U * 4294967296)) + u1)) - (IntKind.u64.wrap (dig U u1 y1 y0 * yN))) = R := by
   rw [wr_add, wr_sub, ← hR, u64s (by omega) (by omega)]
  rw [hW]
  rw [← hR] at hrem
  have D2 : Dg R u0 y1 y0 := ⟨by omega, by omega, by omega, by omega, by omega, by omega, by omega, by omega⟩
  obtain ⟨st3, st4⟩ := D2.start
  have en1 := Int.mul_ediv_add_emod R y1
  have en2 := Int.emod_nonneg R (b := y1) (by omega)
  have en3 := Int.emod_lt_of_pos R hy1p
  have hq3 := Int.ediv_nonneg hrem.1 (Int.le_of_lt hy1p)
  rw [Int.tdiv_eq_ediv_of_nonneg hrem.1, u64s (n := R / y1) hq3 (by omega)]
  have hqz : R / y1 * y1 = R - R % y1 := by rw [Int.mul_comm]; omega
  have hqm := Int.mul_nonneg hq3 (Int.le_of_lt hy1p)
  rw [u64s (n := R / y1 * y1) (by omega) (by omega), u64s (n := R - R / y1 * y1) (by omega) (by omega)]
  rw [div_l1 (by omega) D2 2 (R / y1) (R - R / y1 * y1) k' (by omega) (by omega) (by omega) (by omega) rfl st3 st4]
  have hT2 := D2.nn
  have hTt2 := D2.top
  have hrem2 := D2.rem
  rw [hyy] at hrem2
  obtain ⟨R2, hR2⟩ : ∃ R2, R2 = R * 4294967296 + u0 - dig R u0 y1 y0 * yN := ⟨_, rfl⟩
  have hW2 : IntKind.u64.wrap ((IntKind.u64.wrap ((IntKind.u64.wrap (R * 4294967296)) + u0)) - (IntKind.u64.wrap (dig R u0 y1 y0 * yN))) = R2 := by
   rw [wr_add, wr_sub, ← hR2, u64s (by omega) (by omega)]
  rw [hW2, sr2]
  rw [← hR2] at hrem2
  have h2d := two_digits hR hR2
  rw [show u1 * 4294967296 + u0 = L by omega, hyN] at h2d
  rw [hyN] at hrem2
  obtain ⟨f1, f2⟩ := normal hP0 hQ0 hPQ hU hL h2d hrem2.1 hrem2.2
  rw [u64s (n := dig U u1 y1 y0 * 4294967296) (by omega) (by omega), u64s (by omega) (by omega), f1, f2]

theorem power_eq2 (p n : Int) (hp : Pr p) (h : n ≤ 62) (h1 : pw p n ≤ 4611686018427387904) (h0 : -9223372036854775808 ≤ n) : ∀ k, 70 ≤ k → impl_power.f k p n = some (pw p n) := by
 have hp2 := hp.pos
 have hle : ∀ j : Int, j ≤ n → 1 ≤ pw p j ∧ pw p j ≤ 4611686018427387904 := fun j hj => by
  have := pw_le hp hj; have := pw_pos2 hp j; omega
 have go : ∀ (d k : Nat) (out j : Int), n = j + d → 0 ≤ j → d < k → out = pw p j → impl_power.l0 k p out n j = some (pw p n) := by
  intro d
  induction d with
  | zero =>
   intro k out j hn hj hk ho
   obtain ⟨k, rfl⟩ : ∃ m, k = m + 1 := ⟨k - 1, by omega⟩
   simp only [impl_power.l0]
   rw [if_neg (by omega), ho]
   congr 2; omega
  | succ d ih =>
   intro k out j hn hj hk ho
   obtain ⟨k, rfl⟩ : ∃ m, k = m + 1 := ⟨k - 1, by omega⟩
   simp only [impl_power.l0]
   have hb := hle (j + 1) (by omega)
   have hs1 := pw_succ p j hj
   rw [if_pos (by omega), w64 (n := j + 1) (by omega) (by omega), ho, ← hs1, w64 (by omega) (by omega), ih k _ (j + 1) (by omega) (by omega) (by omega) rfl]
 intro k hk
 unfold impl_power.f
 by_cases h1 : n ≤ 0
 ·
  obtain ⟨k, rfl⟩ : ∃ m, k = m + 1 := ⟨k - 1, by omega⟩
  simp only [impl_power.l0]
  rw [if_neg (by omega)]
  simp [pw, show n.toNat = 0 by omega]
 ·
  rw [go n.toNat k 1 0 (by omega) (by omega) (by omega) (by simp [pw])]

theorem l01Power_eq2 (p n : Int) (hp : Pr p) (h : n ≤ 62) (h1 : pw p n ≤ 4611686018427387904) (h0 : -9223372036854775808 ≤ n) : ∀ k, 70 ≤ k → spec_l01Power.f k p n = some (pw p n) := by
 have hp2 := hp.pos
 have hle : ∀ j : Int, j ≤ n → 1 ≤ pw p j ∧ pw p j ≤ 4611686018427387904 := fun j hj => by
  have := pw_le hp hj; have := pw_pos2 hp j; omega
 have go : ∀ (d k : Nat) (m out j : Int), m = d → n = j + d → 0 ≤ j → d < k → out = pw p j → spec_l01Power.l0 k p m out = some (pw p n) := by
  intro d
  induction d with
  | zero =>
   intro k m out j hm hn hj hk ho
   obtain ⟨k, rfl⟩ : ∃ m, k = m + 1 := ⟨k - 1, by omega⟩
   simp only [spec_l01Power.l0]
   rw [if_neg (by omega), ho]
   congr 2; omega
  | succ d ih =>
   intro k m out j hm hn hj hk ho
   obtain ⟨k, rfl⟩ : ∃ m, k = m + 1 := ⟨k - 1, by omega⟩
   simp only [spec_l01Power.l0]
   have hb := hle (j + 1) (by omega)
   have hs1 := pw_succ p j hj
   rw [if_pos (by omega), w64 (n := m - 1) (by omega) (by omega), ho, ← hs1, w64 (by omega) (by omega), ih k (m - 1) _ (j + 1) (by omega) (by omega) (by omega) (by omega) rfl]
 intro k hk
 unfold spec_l01Power.f
 by_cases h1 : n ≤ 0
 ·
  obtain ⟨k, rfl⟩ : ∃ m, k = m + 1 := ⟨k - 1, by omega⟩
  simp only [spec_l01Power.l0]
  rw [if_neg (by omega)]
  simp [pw, show n.toNat = 0 by omega]
 ·
  rw [go n.toNat k n 1 0 (by omega) (by omega) (by omega) (by omega) (by simp [pw])]

theorem tmod_fix (a m : Int) (hm : 0 < m) : (a.tmod m + m).tmod m = a % m ∧ -m < a.tmod m ∧ a.tmod m < m := by
 have h1 := Int.tmod_lt_of_pos a hm
 have h2 := Int.lt_tmod_of_pos a hm
 have h3 := Int.mul_tdiv_add_tmod a m
 refine ⟨?_, h2, h1⟩
 rw [Int.tmod_eq_emod_of_nonneg (by omega)]
 rw [show a.tmod m + m = a + m * (1 - a.tdiv m) by rw [Int.mul_sub]; omega, Int.add_mul_emod_self_left]
theorem em_mul (a b m : Int) : (a % m * b) % m = a * b % m := by rw [Int.mul_emod, Int.emod_emod, ← Int.mul_emod]
theorem emb (a m : Int) (hm : 0 < m) : 0 ≤ a % m ∧ a % m < m := ⟨Int.emod_nonneg _ (by omega), Int.emod_lt_of_pos _ hm⟩

theorem mod_eq (a m : Int) (hm : 0 < m) (h2 : m ≤ 4611686018427387904) : impl_mod.f a m = some (a % m) := by
 obtain ⟨e, h3, h4⟩ := tmod_fix a m hm
 unfold impl_mod.f
 rw [if_neg (by omega), w64 (by omega) (by omega), e]

theorem times_eq (a b m : Int) (hm : 0 < m) (h2 : m ≤ 4611686018427387904) : ∀ k, 40 ≤ k → impl_times.f k a b m = some (a * b % m) := by
 intro k hk
 obtain ⟨ha0, ha1⟩ := emb a m hm
 obtain ⟨hb0, hb1⟩ := emb b m hm
 unfold impl_times.f
 rw [mod_eq a m hm h2, mod_eq b m hm h2]
 simp only [Option.bind_some]
 rw [u64s ha0 (by omega), u64s hb0 (by omega), u64s (n := m) (by omega) (by omega)]
 unfold bits_Mul64.f
 rw [if_pos (by omega)]
 simp only [Option.bind_some]
 obtain ⟨P, hP⟩ : ∃ P, P = a % m * (b % m) := ⟨_, rfl⟩
 have hP0 : 0 ≤ P := by rw [hP]; exact Int.mul_nonneg ha0 hb0
 rw [← hP]
 have hq : 0 ≤ P / 18446744073709551616 := Int.ediv_nonneg hP0 (by omega)
 rw [if_neg (by omega), Int.tmod_eq_emod_of_nonneg hq]
 obtain ⟨c0, c1⟩ := emb (P / 18446744073709551616) m hm
 obtain ⟨d0, d1⟩ := emb P 18446744073709551616 (by omega)
 rw [div64_eq c0 c1 (by omega) d0 d1 k hk]
 simp only [Option.bind_some]
 have e : (P / 18446744073709551616 % m * 18446744073709551616 + P % 18446744073709551616) % m = a * b % m := by
  rw [Int.add_emod, em_mul, ← Int.add_emod, show P / 18446744073709551616 * 18446744073709551616 + P % 18446744073709551616 = P by omega, hP, ← Int.mul_emod]
 rw [e]
 obtain ⟨f0, f1⟩ := emb (a * b) m hm
 rw [w64 (by omega) (by omega)]

theorem l01MulMod_eq (a b m : Int) (hm : 0 < m) (h2 : m ≤ 13841287201) : spec_l01MulMod.f a b m = some (a * b % m) := by
 obtain ⟨e1, h3, h4⟩ := tmod_fix a m hm
 obtain ⟨e2, h5, h6⟩ := tmod_fix b m hm
 obtain ⟨ha0, ha1⟩ := emb a m hm
 obtain ⟨hb0, hb1⟩ := emb b m hm
 unfold spec_l01MulMod.f
 rw [if_neg (by omega), w64 (n := a.tmod m + m) (by omega) (by omega), w64 (n := b.tmod m + m) (by omega) (by omega), e1, e2]
 have em : a * b % m = (a % m) * (b % m) % m := Int.mul_emod a b m
 rw [em]
 generalize a % m = x at *
 generalize b % m = y at *
 rw [Int.tdiv_eq_ediv_of_nonneg hb0, Int.tmod_eq_emod_of_nonneg hb0]
 have m1 := mul_bd2 (a := x) (b := y / 1000000) 13841287201 13842 (by omega) (by omega) (by omega) (by omega)
 have m2 := mul_bd2 (a := x) (b := y % 1000000) 13841287201 1000000 (by omega) (by omega) (by omega) (by omega)
 have n1 : 0 ≤ x * (y / 1000000) := Int.mul_nonneg ha0 (by omega)
 have n2 : 0 ≤ x * (y % 1000000) := Int.mul_nonneg ha0 (by omega)
 rw [w64 (n := y / 1000000) (by omega) (by omega), w64 (n := x * (y / 1000000)) (by omega) (by omega), Int.tmod_eq_emod_of_nonneg n1, w64 (n := x * (y % 1000000)) (by omega) (by omega), Int.tmod_eq_emod_of_nonneg n2]
 obtain ⟨c0, c1⟩ := emb (x * (y / 1000000)) m hm
 obtain ⟨d0, d1⟩ := emb (x * (y % 1000000)) m hm
 rw [w64 (n := x * (y / 1000000) % m * 1000000) (by omega) (by omega), Int.tmod_eq_emod_of_nonneg (a := x * (y / 1000000) % m * 1000000) (by omega)]
 obtain ⟨f0, f1⟩ := emb (x * (y / 1000000) % m * 1000000) m hm
 rw [w64 (by omega) (by omega), Int.tmod_eq_emod_of_nonneg (a := x * (y / 1000000) % m * 1000000 % m + x * (y % 1000000) % m) (by omega)]
 rw [em_mul, ← Int.add_emod]
 congr 2
 have : y = y / 1000000 * 1000000 + y % 1000000 := by omega
 conv => rhs; rw [this]
 rw [Int.mul_add, Int.mul_assoc]

theorem inverse_eq (n m : Int) (hm : 0 < m) (h2 : m ≤ 1099511627776) : ∀ k, m.toNat + 4 ≤ k → impl_inverse.f k n m = some (inv n m) := by
 have go : ∀ (j : Nat) (n a b x y : Int) (k : Nat), Inv n m a b x y → b < j → a ≤ m → b ≤ m → x.natAbs ≤ m → y.natAbs ≤ m → j < k → impl_inverse.l0 k m a b x y = some (invF j a b x y % m) := by
  intro j
  induction j with
  | zero => intro n a b x y k h hb; have := h.b0; omega
  | succ j ih =>
   intro n a b x y k h hb ham hbm hx hy hk
   obtain ⟨k, rfl⟩ : ∃ i, k = i + 1 := ⟨k - 1, by omega⟩
   have a0 := h.a0; have b0 := h.b0
   simp only [impl_inverse.l0, invF]
   by_cases z : b = 0
   ·
    rw [if_pos z, if_pos z]
    rw [mod_eq x m hm (by omega)]; rfl
   ·
    rw [if_neg z, if_neg z]
    have hb1 : 0 < b := by omega
    obtain ⟨i1, i2, i3, i4⟩ := h.bd
    obtain ⟨i5, i6⟩ := i4 hb1
    have hs := h.step z
    obtain ⟨j1, j2, j3, j4⟩ := hs.bd
    have hy' := j2 hb1
    have hq : 0 ≤ a / b := Int.ediv_nonneg a0 b0
    have hq2 := Int.ediv_le_self b a0
    have hr : a - a / b * b = a % b := by rw [Int.emod_def, Int.mul_comm b]
    obtain ⟨r0, r1⟩ := emb a b hb1
    have hay : (a / b * y).natAbs ≤ m := by
     rw [Int.natAbs_mul]
     have : ((a / b).natAbs * y.natAbs : Nat) = a / b * (y.natAbs : Int) := by
      rw [Int.natCast_mul, Int.natAbs_of_nonneg hq]
     omega
    rw [Int.tdiv_eq_ediv_of_nonneg a0, w64 (n := a / b) (by omega) (by omega), w64 (n := a / b * b) (by omega) (by omega), w64 (n := a - a / b * b) (by omega) (by omega), w64 (n := a / b * y) (by omega) (by omega), w64 (n := x - a / b * y) (by omega) (by omega)]
    exact ih n b (a - a / b * b) y (x - a / b * y) k hs (by omega) hbm (by omega) hy (by omega) (by omega)
 intro k hk
 obtain ⟨h0, h1⟩ := emb n m hm
 unfold impl_inverse.f inv
 rw [mod_eq n m hm (by omega)]
 simp only [Option.bind_some]
 exact go (m.toNat + 2) (n % m) (n % m) m 1 0 k (Inv.start h0 (by omega)) (by omega) (by omega) (by omega) (by omega) (by omega) (by omega)

theorem l01InvMod_eq (n m : Int) (hm : 0 < m) (h2 : m ≤ 1099511627776) : ∀ k, m.toNat + 4 ≤ k → spec_l01InvMod.f k n m = some (inv n m) := by
 have go : ∀ (j : Nat) (n a b x y : Int) (k : Nat), Inv n m a b x y → b < j → a ≤ m → b ≤ m → x.natAbs ≤ m → y.natAbs ≤ m → j < k → spec_l01InvMod.l0 k m a b x y = some (invF j a b x y % m) := by
  intro j
  induction j with
  | zero => intro n a b x y k h hb; have := h.b0; omega
  | succ j ih =>
   intro n a b x y k h hb ham hbm hx hy hk
   obtain ⟨k, rfl⟩ : ∃ i, k = i + 1 := ⟨k - 1, by omega⟩
   have a0 := h.a0; have b0 := h.b0
   simp only [spec_l01InvMod.l0, invF]
   by_cases z : b = 0
   ·
    rw [if_pos z, if_pos z]
    obtain ⟨e, h3, h4⟩ := tmod_fix x m hm
    rw [if_neg (by omega), w64 (by omega) (by omega), e]
   ·
    rw [if_neg z, if_neg z]
    have hb1 : 0 < b := by omega
    obtain ⟨i1, i2, i3, i4⟩ := h.bd
    obtain ⟨i5, i6⟩ := i4 hb1
    have hs := h.step z
    obtain ⟨j1, j2, j3, j4⟩ := hs.bd
    have hy' := j2 hb1
    have hq : 0 ≤ a / b := Int.ediv_nonneg a0 b0
    have hq2 := Int.ediv_le_self b a0
    have hr : a - a / b * b = a % b := by rw [Int.emod_def, Int.mul_comm b]
    obtain ⟨r0, r1⟩ := emb a b hb1
    have hay : (a / b * y).natAbs ≤ m := by
     rw [Int.natAbs_mul]
     have : ((a / b).natAbs * y.natAbs : Nat) = a / b * (y.natAbs : Int) := by
      rw [Int.natCast_mul, Int.natAbs_of_nonneg hq]
     omega
    rw [Int.tdiv_eq_ediv_of_nonneg a0, w64 (n := a / b) (by omega) (by omega), w64 (n := a / b * b) (by omega) (by omega), w64 (n := a - a / b * b) (by omega) (by omega), w64 (n := a / b * y) (by omega) (by omega), w64 (n := x - a / b * y) (by omega) (by omega)]
    exact ih n b (a - a / b * b) y (x - a / b * y) k hs (by omega) hbm (by omega) hy (by omega) (by omega)
 intro k hk
 obtain ⟨h0, h1⟩ := emb n m hm
 unfold spec_l01InvMod.f inv
 obtain ⟨e, h3, h4⟩ := tmod_fix n m hm
 rw [if_neg (by omega), w64 (by omega) (by omega), e]
 exact go (m.toNat + 2) (n % m) (n % m) m 1 0 k (Inv.start h0 (by omega)) (by omega) (by omega) (by omega) (by omega) (by omega) (by omega)

theorem pwvl {p n : Int} (hp : Pr p) (h : n ≠ 0) : 0 < pw p (vl p n) ∧ pw p (vl p n) ≤ (n.natAbs : Int) := by
 refine ⟨pw_pos2 hp _, ?_⟩
 have := Int.le_of_dvd (by omega) (Int.dvd_natAbs.mpr (pw_vl_dvd hp h))
 exact this
theorem un_div {p n : Int} (hp : Pr p) (h : n ≠ 0) : n.tdiv (pw p (vl p n)) = un p n := by
 unfold un; rw [vz_of_ne h, Int.tdiv_eq_ediv_of_dvd (pw_vl_dvd hp h)]
theorem un_bd {p n : Int} (hp : Pr p) (h : n ≠ 0) : (un p n).natAbs ≤ n.natAbs := by
 obtain ⟨e, _⟩ := un_spec hp h
 have h1 := pwvl hp h
 have : n.natAbs = (pw p (vl p n)).natAbs * (un p n).natAbs := by rw [← Int.natAbs_mul, ← e]
 rw [this]
 exact Nat.le_mul_of_pos_left _ (by omega)

theorem unit_eq (p n : Int) (hp : Pr p) (h : n ≠ 0) (hb : n.natAbs ≤ 4611686018427387904) : ∀ k, 70 ≤ k → impl_unit.f k p n = some (un p n) := by
 intro k hk
 have h1 := pwvl hp h
 have h2 := vl_le63 hp h (by omega)
 have h3 := vl_le hp h (k := 63) (by
  have : (2 : Nat) ^ 63 = 9223372036854775808 := by decide
  omega)
 have h4 := un_bd hp h
 unfold impl_unit.f
 rw [valuation_eq p n hp (by omega) k hk, vz_of_ne h]
 simp only [Option.bind_some]
 rw [power_eq2 p _ hp (by omega) (by omega) (by omega) k hk]
 simp only [Option.bind_some]
 rw [if_neg (by omega), un_div hp h, w64 (by omega) (by omega)]

def enc : Option PM.Ball → Int × Int × Int × Bool
 | none => (0, 0, 0, false)
 | some b => (b.lv, b.top, b.dn, true)
def encC (c : Int) : Option PM.Ball → Int × Int × Int × Int
 | none => (0, 0, 0, c)
 | some b => (b.lv, b.top, b.dn, 0)

theorem isLevel_eq' (n : Int) : impl_isLevel.f n = some (decide (PM.inLv n)) := by
 unfold impl_isLevel.f PM.inLv
 congr 1
 by_cases h1 : n ≥ -6 <;> by_cases h2 : n ≤ 6 <;> simp [h1, h2] <;> omega
theorem ofMark_eq {p lv x : Int} (hp : Pr p) : ∀ k, 70 ≤ k → impl_ofMark.f k p lv x = some (enc (if PM.inLv lv then some (PM.mk p lv (x % pw p (lv + 6))) else none)) := by
 intro k hk
 unfold impl_ofMark.f
 rw [isLevel_eq']
 simp only [Option.bind_some]
 by_cases hl : PM.inLv lv
 ·
  have hl' := hl
  unfold PM.inLv at hl'
  have hb := pw_bd12 p (lv + 6) hp (by omega)
  obtain ⟨r0, r1⟩ := emb x (pw p (lv + 6)) (by omega)
  rw [decide_eq_true hl, if_pos rfl, if_pos hl, w64 (n := lv + 6) (by omega) (by omega), power_eq p _ hp (by omega) k (by omega)]
  simp only [Option.bind_some]
  rw [mod_eq x _ (by omega) (by omega)]
  simp only [Option.bind_some]
  generalize x % pw p (lv + 6) = y at *
  rw [valuation_eq p y hp (by omega) k hk]
  simp only [Option.bind_some]
  have hz : 0 ≤ vz p y ∧ vz p y ≤ 1000 := by
   refine ⟨PM.vz_nonneg _ _, ?_⟩
   unfold vz
   by_cases y0 : y = 0
   ·
    rw [if_pos y0]; omega
   ·
    rw [if_neg y0]; have := vl_le63 hp y0 (by omega); omega
  simp only [mx_max]
  rw [w64 (n := 6 - vz p y) (by omega) (by omega), w64 (n := 6 - max (6 - vz p y) 0) (by omega) (by omega), power_eq p _ hp (by omega) k (by omega)]
  simp only [Option.bind_some]
  have hq := pw_bd6 p (6 - max (6 - vz p y) 0) hp (by omega)
  have hd := Int.ediv_le_self (pw p (6 - max (6 - vz p y) 0)) r0
  have hd0 := Int.ediv_nonneg r0 (show 0 ≤ pw p (6 - max (6 - vz p y) 0) by omega)
  rw [if_neg (by omega), Int.tdiv_eq_ediv_of_nonneg r0, w64 (by omega) (by omega)]
  simp only [enc, PM.mk]
 ·
  rw [decide_eq_false hl, if_neg (by simp), if_neg hl]; rfl

theorem vz_bd {p n : Int} (hp : Pr p) (h : n.natAbs ≤ 9223372036854775807) : 0 ≤ vz p n ∧ vz p n ≤ 1000 := by
 refine ⟨PM.vz_nonneg _ _, ?_⟩
 unfold vz
 by_cases y0 : n = 0
 ·
  rw [if_pos y0]; omega
 ·
  rw [if_neg y0]; have := vl_le63 hp y0 (by omega); omega
theorem ballAt_eq {p n d lv : Int} (hp : Pr p) (hd : d ≠ 0) (hn : n.natAbs ≤ 4611686018427387904) (hdb : d.natAbs ≤ 4611686018427387904) : ∀ k, 13841287300 ≤ k → impl_ballAt.f k p n d lv = some (enc (PM.ballAt p n d lv)) := by
 intro k hk
 obtain ⟨k, rfl⟩ : ∃ j, k = j + 1 := ⟨k - 1, by omega⟩
 unfold impl_ballAt.f PM.ballAt
 rw [isLevel_eq']
 simp only [Option.bind_some]
 by_cases hl : PM.inLv lv
 ·
  have hl' := hl
  unfold PM.inLv at hl'
  have hb := pw_bd12 p (lv + 6) hp (by omega)
  have b1 := vz_bd hp (n := n) (by omega)
  have b2 := vz_bd hp (n := d) (by omega)
  rw [decide_eq_true hl, if_pos rfl, if_neg (fun z => z hl), valuation_eq p n hp (by omega) _ (by omega), valuation_eq p d hp (by omega) _ (by omega)]
  simp only [Option.bind_some, impl_ballAt.j0]
  rw [w64 (n := vz p n - vz p d) (by omega) (by omega)]
  by_cases z : n = 0
  ·
   rw [if_pos z, if_pos trivial, if_pos (Or.inl z)]; rfl
  ·
   rw [if_neg z]
   by_cases c : vz p n - vz p d ≥ lv
   ·
    rw [decide_eq_true c, if_pos rfl, if_pos (Or.inr c)]; rfl
   ·
    rw [decide_eq_false c, if_neg (by simp), if_neg (show ¬ (n = 0 ∨ lv ≤ vz p n - vz p d) from fun y => y.elim z c)]
    by_cases e : vz p n - vz p d < -6
    ·
     rw [if_pos e, if_pos e]; rfl
    ·
     rw [if_neg e, if_neg e, w64 (n := lv + 6) (by omega) (by omega), w64 (n := vz p n - vz p d + 6) (by omega) (by omega), power_eq p (lv + 6) hp (by omega) k (by omega), unit_eq p n hp z hn k (by omega), unit_eq p d hp hd hdb k (by omega)]
     simp only [Option.bind_some]
     rw [inverse_eq _ _ (by omega) (by omega) k (by omega)]
     simp only [Option.bind_some]
     rw [times_eq _ _ _ (by omega) (by omega) k (by omega)]
     simp only [Option.bind_some]
     rw [power_eq p (vz p n - vz p d + 6) hp (by omega) k (by omega)]
     simp only [Option.bind_some]
     rw [times_eq _ _ _ (by omega) (by omega) k (by omega)]
     simp only [Option.bind_some]
     rw [ofMark_eq hp k (by omega), if_pos hl, Int.emod_emod]
     rfl
 ·
  rw [decide_eq_false hl, if_neg (by simp), if_pos hl]; rfl

theorem l01Of_eq {p n d lv : Int} (hp : Pr p) (hd : d ≠ 0) (hn : n.natAbs ≤ 4611686018427387904) (hdb : d.natAbs ≤ 4611686018427387904) : ∀ k, 13841287300 ≤ k → spec_l01Of.f k p n d lv = some (enc (PM.lOf p n d lv)) := by
 intro k hk
 unfold spec_l01Of.f PM.lOf
 rw [in_eq]
 simp only [Option.bind_some]
 by_cases hl : PM.inLv lv
 ·
  have hl' := hl
  unfold PM.inLv at hl'
  rw [decide_eq_true hl', if_pos rfl, if_neg (show ¬ ¬ PM.inLv lv from fun z => z hl)]
  by_cases z : n = 0
  ·
   rw [if_pos z, if_pos z]; rfl
  ·
   have v1 := vl_le63 hp z (by omega)
   have v2 := vl_le63 hp hd (by omega)
   have v3 := vl_le hp z (k := 63) (by
    have : (2 : Nat) ^ 63 = 9223372036854775808 := by decide
    omega)
   have v4 := vl_le hp hd (k := 63) (by
    have : (2 : Nat) ^ 63 = 9223372036854775808 := by decide
    omega)
   rw [if_neg z, if_neg z, val_eq p n hp z (by omega) k (by omega), val_eq p d hp hd (by omega) k (by omega), vz_of_ne z, vz_of_ne hd]
   simp only [Option.bind_some, mx_max]
   rw [w64 (n := (vl p n : Int) - vl p d) (by omega) (by omega), w64 (n := (vl p d : Int) - vl p n) (by omega) (by omega)]
   by_cases c : lv ≤ (vl p n : Int) - vl p d
   ·
    rw [if_pos c, if_pos c]; rfl
   ·
    rw [if_neg c, if_neg c]
    by_cases e : max ((vl p d : Int) - vl p n) 0 > 6
    ·
     rw [if_pos e, if_pos e]; rfl
    ·
     rw [if_neg e, if_neg (show ¬ 6 < max ((vl p d : Int) - vl p n) 0 from e)]
     have hb := pw_bd12 p (lv + max ((vl p d : Int) - vl p n) 0) hp (by omega)
     have p1 := pwvl hp z
     have p2 := pwvl hp hd
     have u1 := un_bd hp z
     have u2 := un_bd hp hd
     rw [w64 (n := lv + max ((vl p d : Int) - vl p n) 0) (by omega) (by omega), l01Power_eq p _ hp (by omega) (by omega) k (by omega), l01Power_eq2 p (vl p n) hp (by omega) (by omega) (by omega) k (by omega), l01Power_eq2 p (vl p d) hp (by omega) (by omega) (by omega) k (by omega)]
     simp only [Option.bind_some]
     rw [if_neg (by omega), if_neg (by omega), un_div hp z, un_div hp hd, w64 (n := un p n) (by omega) (by omega), w64 (n := un p d) (by omega) (by omega), l01InvMod_eq _ _ (by omega) (by omega) k (by omega)]
     simp only [Option.bind_some]
     rw [l01MulMod_eq _ _ _ (by omega) (by omega), l01Power_eq p (max ((vl p n : Int) - vl p d) 0) hp (by omega) (by omega) k (by omega)]
     simp only [Option.bind_some]
     rw [l01MulMod_eq _ _ _ (by omega) (by omega)]
     rfl
 ·
  rw [decide_eq_false (show ¬ (-6 ≤ lv ∧ lv ≤ 6) from hl), if_neg (by simp), if_pos hl]; rfl
theorem lOf_eq_ballAt {p n d lv : Int} (hp : Pr p) (hd : d ≠ 0) : PM.lOf p n d lv = PM.ballAt p n d lv := (PM.ballAt_eq_lOf hp hd).symm

theorem gapz_comm {p : Int} (hp : Pr p) (n1 d1 n2 d2 : Int) : gapz p n2 d2 n1 d1 = gapz p n1 d1 n2 d2 := by
 unfold gapz
 rw [show crs n2 d2 n1 d1 = -(crs n1 d1 n2 d2) by unfold crs; omega, PM.vl_neg p _ hp]
 omega
theorem part_eq {p n1 d1 n2 d2 : Int} (hp : Pr p) (h1 : isE n1 d1) (h2 : isE n2 d2) (z1 : d1 ≠ 0) (z2 : d2 ≠ 0) (hne : ¬ (n1 = n2 ∧ d1 = d2)) : PM.ballAt p n1 d1 (gapz p n1 d1 n2 d2) = PM.ballAt p n2 d2 (gapz p n1 d1 n2 d2) := by
 have hc : n1 * d2 - n2 * d1 ≠ 0 := fun z => hne (crs_zero h1 h2 z)
 exact PM.ballAt_part (g := gapz p n1 d1 n2 d2) hp z1 z2 hc (by unfold gapz crs; omega)
theorem dif3 (a b c d e f : Int) : dif [(⟨a, b⟩ : S28), ⟨c, d⟩, ⟨e, f⟩] = true ↔ ¬ (a = c ∧ b = d) ∧ ¬ (a = e ∧ b = f) ∧ ¬ (c = e ∧ d = f) := by
 simp [dif, difFrom, difAt, rd_T28, and_assoc, Decidable.imp_iff_not_or]
theorem all3 (a b c d e f : Int) : ([(⟨a, b⟩ : S28), ⟨c, d⟩, ⟨e, f⟩].all eOk = true) ↔ (isE a b ∧ isE c d ∧ isE e f) := by
 simp [eOk]
/-- where three ends meet -/
def meetB (p e0 e1 f0 f1 g0 g1 : Int) : Option PM.Ball :=
 if e1 = 0 then PM.ballAt p f0 f1 (gapz p f0 f1 g0 g1) else if f1 = 0 then PM.ballAt p e0 e1 (gapz p e0 e1 g0 g1) else if g1 = 0 then PM.ballAt p e0 e1 (gapz p e0 e1 f0 f1) else
 if gapz p e0 e1 f0 f1 < gapz p g0 g1 e0 e1 then (if gapz p g0 g1 e0 e1 < gapz p g0 g1 f0 f1 then PM.ballAt p g0 g1 (gapz p g0 g1 f0 f1) else PM.ballAt p g0 g1 (gapz p g0 g1 e0 e1))
 else (if gapz p e0 e1 f0 f1 < gapz p g0 g1 f0 f1 then PM.ballAt p g0 g1 (gapz p g0 g1 f0 f1) else PM.ballAt p e0 e1 (gapz p e0 e1 f0 f1))
abbrev Three (p e0 e1 f0 f1 g0 g1 : Int) : Prop := Pr p ∧ isE e0 e1 ∧ isE f0 f1 ∧ isE g0 g1
abbrev Apart (e0 e1 f0 f1 g0 g1 : Int) : Prop := ¬ (e0 = f0 ∧ e1 = f1) ∧ ¬ (e0 = g0 ∧ e1 = g1) ∧ ¬ (f0 = g0 ∧ f1 = g1)
def resM (p e0 e1 f0 f1 g0 g1 : Int) : Int × Int × Int × Int :=
 if Three p e0 e1 f0 f1 g0 g1 then (if Apart e0 e1 f0 f1 g0 g1 then encC 3 (meetB p e0 e1 f0 f1 g0 g1) else (0, 0, 0, 5)) else (0, 0, 0, 1)
theorem finI {p n d g : Int} (hp : Pr p) (h : isE n d) (z : d ≠ 0) (k : Nat) (hk : 13841287300 ≤ k) : impl_MeetingOf.fin k p n d g = some (encC 3 (PM.ballAt p n d g)) := by
 have a := isE_bd h
 unfold impl_MeetingOf.fin
 rw [ballAt_eq hp z (by omega) (by omega) k (by omega)]
 simp only [Option.bind_some]
 cases PM.ballAt p n d g <;> simp [enc, encC, impl_fitted.f]
theorem finS {p n d g : Int} (hp : Pr p) (h : isE n d) (z : d ≠ 0) (k : Nat) (hk : 13841287300 ≤ k) : spec_MeetingOf.fin k p n d g = some (encC 3 (PM.ballAt p n d g)) := by
 have a := isE_bd h
 unfold spec_MeetingOf.fin
 rw [l01Of_eq hp z (by omega) (by omega) k (by omega), lOf_eq_ballAt hp z]
 simp only [Option.bind_some]
 cases PM.ballAt p n d g <;> simp [enc, encC]
theorem twoI {p a0 a1 b0 b1 : Int} (hp : Pr p) (h1 : isE a0 a1) (h2 : isE b0 b1) (z1 : a1 ≠ 0) (z2 : b1 ≠ 0) (hne : ¬ (a0 = b0 ∧ a1 = b1)) (k : Nat) (hk : 13841287300 ≤ k) : impl_MeetingOf.two k p a0 a1 b0 b1 = some (encC 3 (PM.ballAt p a0 a1 (gapz p a0 a1 b0 b1))) := by
 have hne' : ¬ (b0 = a0 ∧ b1 = a1) := fun z => hne ⟨z.1.symm, z.2.symm⟩
 unfold impl_MeetingOf.two impl_MeetingOf.tail
 rw [gap_eq hp h1 h2 z1 z2 hne k (by omega)]
 simp only [Option.bind_some]
 rw [gap_eq hp h2 h1 z2 z1 hne' k (by omega), gapz_comm hp a0 a1 b0 b1]
 simp only [Option.bind_some]
 rw [if_neg (by omega), if_pos trivial]
 exact finI hp h1 z1 k hk
theorem twoS {p a0 a1 b0 b1 : Int} (hp : Pr p) (h1 : isE a0 a1) (h2 : isE b0 b1) (z1 : a1 ≠ 0) (z2 : b1 ≠ 0) (hne : ¬ (b0 = a0 ∧ b1 = a1)) (k : Nat) (hk : 13841287300 ≤ k) : spec_MeetingOf.two k p a0 a1 b0 b1 = some (encC 3 (PM.ballAt p b0 b1 (gapz p b0 b1 a0 a1))) := by
 have hne' : ¬ (a0 = b0 ∧ a1 = b1) := fun z => hne ⟨z.1.symm, z.2.symm⟩
 unfold spec_MeetingOf.two
 rw [l05Gap_eq hp h1 h2 z1 z2 hne' k (by omega)]
 simp only [Option.bind_some]
 rw [finS hp h1 z1 k hk, part_eq hp h1 h2 z1 z2 hne', gapz_comm hp b0 b1 a0 a1]
theorem threeI {p e0 e1 f0 f1 g0 g1 : Int} (hp : Pr p) (h1 : isE e0 e1) (h2 : isE f0 f1) (h3 : isE g0 g1) (z1 : e1 ≠ 0) (z2 : f1 ≠ 0) (z3 : g1 ≠ 0) (ha : Apart e0 e1 f0 f1 g0 g1) (k : Nat) (hk : 13841287300 ≤ k) : impl_MeetingOf.three k p e0 e1 f0 f1 g0 g1 = some (encC 3 (meetB p e0 e1 f0 f1 g0 g1)) := by
 obtain ⟨n1, n2, n3⟩ := ha
 unfold impl_MeetingOf.three impl_MeetingOf.tail meetB
 rw [if_neg z1, if_neg z2, if_neg z3, gap_eq hp h1 h2 z1 z2 n1 k (by omega)]
 simp only [Option.bind_some]
 rw [gap_eq hp h2 h1 z2 z1 (fun z => n1 ⟨z.1.symm, z.2.symm⟩) k (by omega), gapz_comm hp e0 e1 f0 f1, gap_eq hp h3 h1 z3 z1 (fun z => n2 ⟨z.1.symm, z.2.symm⟩) k (by omega), gap_eq hp h3 h2 z3 z2 (fun z => n3 ⟨z.1.symm, z.2.symm⟩) k (by omega)]
 simp only [Option.bind_some]
 rw [if_neg (by omega), if_neg (show ¬ ((3 : Nat) = 2) by omega)]
 by_cases c : gapz p e0 e1 f0 f1 < gapz p g0 g1 e0 e1
 ·
  rw [if_pos c, if_pos c]
  by_cases d : gapz p g0 g1 e0 e1 < gapz p g0 g1 f0 f1
  ·
   rw [if_pos d, if_pos d]; exact finI hp h3 z3 k hk
  ·
   rw [if_neg d, if_neg d]; exact finI hp h3 z3 k hk
 ·
  rw [if_neg c, if_neg c]
  by_cases d : gapz p e0 e1 f0 f1 < gapz p g0 g1 f0 f1
  ·
   rw [if_pos d, if_pos d]; exact finI hp h3 z3 k hk
  ·
   rw [if_neg d, if_neg d]; exact finI hp h1 z1 k hk
theorem threeS {p e0 e1 f0 f1 g0 g1 : Int} (hp : Pr p) (h1 : isE e0 e1) (h2 : isE f0 f1) (h3 : isE g0 g1) (z1 : e1 ≠ 0) (z2 : f1 ≠ 0) (z3 : g1 ≠ 0) (ha : Apart e0 e1 f0 f1 g0 g1) (k : Nat) (hk : 13841287300 ≤ k) : spec_MeetingOf.three k p e0 e1 f0 f1 g0 g1 = some (encC 3 (meetB p e0 e1 f0 f1 g0 g1)) := by
 obtain ⟨n1, n2, n3⟩ := ha
 unfold spec_MeetingOf.three meetB
 rw [if_neg z1, if_neg z2, if_neg z3, l05Gap_eq hp h2 h1 z2 z1 (fun z => n1 ⟨z.1.symm, z.2.symm⟩) k (by omega), gapz_comm hp e0 e1 f0 f1, l05Gap_eq hp h3 h1 z3 z1 (fun z => n2 ⟨z.1.symm, z.2.symm⟩) k (by omega), l05Gap_eq hp h3 h2 z3 z2 (fun z => n3 ⟨z.1.symm, z.2.symm⟩) k (by omega)]
 simp only [Option.bind_some]
 by_cases c : gapz p e0 e1 f0 f1 < gapz p g0 g1 e0 e1
 ·
  rw [if_pos c, if_pos c]
  by_cases d : gapz p g0 g1 e0 e1 < gapz p g0 g1 f0 f1
  ·
   rw [if_pos d, if_pos d]; exact finS hp h3 z3 k hk
  ·
   rw [if_neg d, if_neg d]; exact finS hp h3 z3 k hk
 ·
  rw [if_neg c, if_neg c]
  by_cases d : gapz p e0 e1 f0 f1 < gapz p g0 g1 f0 f1
  ·
   rw [if_pos d, if_pos d]; exact finS hp h3 z3 k hk
  ·
   rw [if_neg d, if_neg d, part_eq hp h1 h2 z1 z2 n1]; exact finS hp h2 z2 k hk
theorem zerosE3 {n1 d1 n2 d2 : Int} (h1 : isE n1 d1) (h2 : isE n2 d2) (hne : ¬ (n1 = n2 ∧ d1 = d2)) : ¬ (d1 = 0 ∧ d2 = 0) := by
 unfold isE at h1 h2; omega
theorem mainI {p e0 e1 f0 f1 g0 g1 : Int} (ht : Three p e0 e1 f0 f1 g0 g1) (ha : Apart e0 e1 f0 f1 g0 g1) (k : Nat) (hk : 13841287300 ≤ k) : impl_MeetingOf.main k p e0 e1 f0 f1 g0 g1 = some (encC 3 (meetB p e0 e1 f0 f1 g0 g1)) := by
 obtain ⟨hp, h1, h2, h3⟩ := ht
 have q1 := zerosE3 h1 h2 ha.1
 have q2 := zerosE3 h1 h3 ha.2.1
 have q3 := zerosE3 h2 h3 ha.2.2
 unfold impl_MeetingOf.main
 by_cases z1 : e1 = 0
 ·
  rw [if_pos z1, if_neg (by omega)]; unfold meetB; rw [if_pos z1]
  exact twoI hp h2 h3 (by omega) (by omega) ha.2.2 k hk
 rw [if_neg z1]
 by_cases z2 : f1 = 0
 ·
  rw [if_pos z2, if_neg (by omega)]; unfold meetB; rw [if_neg z1, if_pos z2]
  exact twoI hp h1 h3 (by omega) (by omega) ha.2.1 k hk
 rw [if_neg z2]
 by_cases z3 : g1 = 0
 ·
  rw [if_pos z3]; unfold meetB; rw [if_neg z1, if_neg z2, if_pos z3]
  exact twoI hp h1 h2 (by omega) (by omega) ha.1 k hk
 rw [if_neg z3]
 exact threeI hp h1 h2 h3 z1 z2 z3 ha k hk
theorem mainS {p e0 e1 f0 f1 g0 g1 : Int} (ht : Three p e0 e1 f0 f1 g0 g1) (ha : Apart e0 e1 f0 f1 g0 g1) (k : Nat) (hk : 13841287300 ≤ k) : spec_MeetingOf.main k p e0 e1 f0 f1 g0 g1 = some (encC 3 (meetB p e0 e1 f0 f1 g0 g1)) := by
 obtain ⟨hp, h1, h2, h3⟩ := ht
 have q1 := zerosE3 h1 h2 ha.1
 have q2 := zerosE3 h1 h3 ha.2.1
 have q3 := zerosE3 h2 h3 ha.2.2
 unfold spec_MeetingOf.main
 by_cases z1 : e1 = 0
 ·
  rw [if_pos z1, if_neg (by omega)]; unfold meetB; rw [if_pos z1]
  exact twoS hp h3 h2 (by omega) (by omega) ha.2.2 k hk
 rw [if_neg z1]
 by_cases z2 : f1 = 0
 ·
  rw [if_pos z2, if_neg (by omega)]; unfold meetB; rw [if_neg z1, if_pos z2]
  exact twoS hp h3 h1 (by omega) (by omega) ha.2.1 k hk
 rw [if_neg z2]
 by_cases z3 : g1 = 0
 ·
  rw [if_pos z3]; unfold meetB; rw [if_neg z1, if_neg z2, if_pos z3]
  exact twoS hp h2 h1 (by omega) (by omega) ha.1 k hk
 rw [if_neg z3]
 exact threeS hp h1 h2 h3 z1 z2 z3 ha k hk
theorem specM_res (p e0 e1 f0 f1 g0 g1 : Int) : ∃ K, ∀ k, K ≤ k → spec_MeetingOf.f k p e0 e1 f0 f1 g0 g1 = some (resM p e0 e1 f0 f1 g0 g1) := by
 obtain ⟨K, h⟩ := l05Code_eq p [] [⟨e0, e1⟩, ⟨f0, f1⟩, ⟨g0, g1⟩] (by simp) (by simp)
 refine ⟨K + 13841289100, fun k hk => ?_⟩
 unfold spec_MeetingOf.f resM
 rw [h _ (by omega)]
 simp only [Option.bind_some, List.all_nil, and_true]
 by_cases c : Three p e0 e1 f0 f1 g0 g1
 ·
  rw [if_pos (show Pr p ∧ [(⟨e0, e1⟩ : S28), ⟨f0, f1⟩, ⟨g0, g1⟩].all eOk = true from ⟨c.1, (all3 _ _ _ _ _ _).2 c.2⟩), if_pos c]
  by_cases a : Apart e0 e1 f0 f1 g0 g1
  ·
   rw [if_pos ((dif3 _ _ _ _ _ _).2 a), if_pos a, if_pos rfl]
   exact mainS c a k (by omega)
  ·
   rw [if_neg (fun z => a ((dif3 _ _ _ _ _ _).1 z)), if_neg a, if_neg (by omega)]
 ·
  rw [if_neg (show ¬ (Pr p ∧ [(⟨e0, e1⟩ : S28), ⟨f0, f1⟩, ⟨g0, g1⟩].all eOk = true) from fun z => c ⟨z.1, (all3 _ _ _ _ _ _).1 z.2⟩), if_neg c, if_neg (by omega)]
theorem implM_res (p e0 e1 f0 f1 g0 g1 : Int) : ∃ K, ∀ k, K ≤ k → impl_MeetingOf.f k p e0 e1 f0 f1 g0 g1 = some (resM p e0 e1 f0 f1 g0 g1) := by
 obtain ⟨K1, h1⟩ := areEnds_eq [⟨e0, e1⟩, ⟨f0, f1⟩, ⟨g0, g1⟩] (by simp)
 obtain ⟨K2, h2⟩ := areDifferent_eq [⟨e0, e1⟩, ⟨f0, f1⟩, ⟨g0, g1⟩] (by simp)
 refine ⟨K1 + K2 + 13841289100, fun k hk => ?_⟩
 unfold impl_MeetingOf.f resM
 rw [h1 _ (by omega), h2 _ (by omega), isPrime_eq]
 rcases prime_cases p with ⟨g, hp⟩ | ⟨g, hp⟩
 ·
  have hp : Pr p := hp
  rw [g]
  simp only [Option.bind_some, if_true]
  by_cases c : isE e0 e1 ∧ isE f0 f1 ∧ isE g0 g1
  ·
   rw [(all3 _ _ _ _ _ _).2 c, if_pos rfl, if_pos (show Three p e0 e1 f0 f1 g0 g1 from ⟨hp, c⟩)]
   by_cases a : Apart e0 e1 f0 f1 g0 g1
   ·
    rw [(dif3 _ _ _ _ _ _).2 a, if_pos rfl, if_pos a]
    exact mainI ⟨hp, c⟩ a k (by omega)
   ·
    rw [Bool.eq_false_iff.mpr (fun z => a ((dif3 _ _ _ _ _ _).1 z)), if_neg a]; simp
  ·
   rw [if_neg (show ¬ Three p e0 e1 f0 f1 g0 g1 from fun z => c z.2), Bool.eq_false_iff.mpr (fun z => c ((all3 _ _ _ _ _ _).1 z))]
   simp
 ·
  rw [g, if_neg (show ¬ Three p e0 e1 f0 f1 g0 g1 from fun z => hp z.1)]
  simp

theorem FnExactMeetingOf (p e0 e1 f0 f1 g0 g1 : Int) (_ : (Lit.int .i64 p).wf = true) (_ : (Lit.int .i64 e0).wf = true) (_ : (Lit.int .i64 e1).wf = true) (_ : (Lit.int .i64 f0).wf = true) (_ : (Lit.int .i64 f1).wf = true) (_ : (Lit.int .i64 g0).wf = true) (_ : (Lit.int .i64 g1).wf = true) : ∃ k, laws_FnExactMeetingOf.f k p e0 e1 f0 f1 g0 g1 = some true := by
 obtain ⟨K1, h1⟩ := specM_res p e0 e1 f0 f1 g0 g1
 obtain ⟨K2, h2⟩ := implM_res p e0 e1 f0 f1 g0 g1
 refine ⟨K1 + K2, ?_⟩
 unfold laws_FnExactMeetingOf.f laws_toEnd.f
 simp only [Option.bind_some]
 rw [h1 _ (by omega), h2 _ (by omega)]
 simp [laws_eqBall.f]

end Go.Proofs.Ytpihnmmoahplgaa.Pure
