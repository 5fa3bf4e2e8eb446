/- The program's QuotientOf and the reference's return the same, for all arguments: the printed functions' law answers true. -/
import Derived.Test.YtnhiehpbkimaeaaGreatQLFnExactQuotientOf
import Derived.Test.YtnhiehpbkimaeaaGreatMath
import Derived.Laws.Bits64b
import Derived.Lib.BitFns
set_option linter.unusedVariables false
set_option linter.unusedSimpArgs false
namespace Go.Proofs.YtnhiehpbkimaeaaGreat.Pure
open Go.RowKit Go.Proofs.YtnhiehpbkimaeaaGreat.PAll Go.Proofs.YtnhiehpbkimaeaaGreatW.PrintWords Go.Proofs.YtnhiehpbkimaeaaGreatW.PrintLast PM
theorem w64 {n : Int} (h1 : -9223372036854775808 ≤ n) (h2 : n ≤ 9223372036854775807) : wrap64 n = n := by unfold wrap64; omega
theorem wfb {n : Int} (h : (Lit.int .i64 n).wf = true) : -9223372036854775808 ≤ n ∧ n ≤ 9223372036854775807 := by
  simp [Lit.wf, IntKind.min, IntKind.max, IntKind.bits, IntKind.signed] at h; omega
theorem rd_nat (l : List Int) (i : Nat) (h : i < l.length) : l[i]? = some (rd l (i : Int)) := by
  unfold rd; simp [List.getD_eq_getElem?_getD, h]
theorem eqInts (l : List Int) (hl : l.length ≤ 1048576) : ∃ K, ∀ k, K ≤ k → bF.f k l l = some true := by
  have go : ∀ (d k i : Nat), i + d = l.length → d < k → bF.l0 k l l i = some true := by
    intro d
    induction d with
    | zero =>
      intro k i h2 h3
      obtain ⟨k, rfl⟩ : ∃ m, k = m + 1 := ⟨k - 1, by omega⟩
      simp only [bF.l0]
      rw [if_neg (by omega)]
    | succ d ih =>
      intro k i h2 h3
      obtain ⟨k, rfl⟩ : ∃ m, k = m + 1 := ⟨k - 1, by omega⟩
      simp only [bF.l0]
      rw [if_pos (by omega), if_pos (by omega), if_pos (by omega), if_pos trivial, w64 (by omega) (by omega)]
      exact ih k (i + 1) (by omega) (by omega)
  refine ⟨l.length + 1, fun k hk => ?_⟩
  unfold bF.f
  rw [if_pos rfl]
  exact go l.length k 0 (by omega) (by omega)
theorem markInts (l : List Int) (hl : l.length ≤ 1048576) : ∃ m : List Int, (m.length = l.length ∧ ∃ K, ∀ k, K ≤ k → ar.f k l 1 = some (1 + (l.length : Int), m)) ∧ ∃ K, ∀ k, K ≤ k → ay.f k m 1 = some (1 + (l.length : Int)) := by
  have go : ∀ (d : Nat) (acc : List Int) (i : Nat), acc.length = l.length → i + d = l.length → (∀ j : Nat, j < i → acc[j]? = some (1 + (j : Int))) → ∃ m : List Int, (m.length = l.length ∧ ∀ j : Nat, j < l.length → m[j]? = some (1 + (j : Int))) ∧ ∀ k, d < k → ar.l0 k acc (1 + (i : Int)) i = some (1 + (l.length : Int), m) := by
    intro d
    induction d with
    | zero =>
      intro acc i h1 h2 h4
      refine ⟨acc, ⟨h1, fun j hj => h4 j (by omega)⟩, fun k h3 => ?_⟩
      obtain ⟨k, rfl⟩ : ∃ m, k = m + 1 := ⟨k - 1, by omega⟩
      simp only [ar.l0]
      rw [if_neg (by omega)]
      obtain rfl : i = l.length := by omega
      rfl
    | succ d ih =>
      intro acc i h1 h2 h4
      obtain ⟨m, hm, hk⟩ := ih (acc.set i (1 + (i : Int))) (i + 1) (by rw [List.length_set]; exact h1) (by omega) (fun j hj => by
        by_cases e : j = i
        · subst e
          rw [List.getElem?_set_self (by omega)]
        · rw [List.getElem?_set_ne (by omega)]
          exact h4 j (by omega))
      refine ⟨m, hm, fun k h3 => ?_⟩
      obtain ⟨k, rfl⟩ : ∃ m, k = m + 1 := ⟨k - 1, by omega⟩
      simp only [ar.l0]
      rw [if_pos (by omega), if_pos (by omega), w64 (n := 1 + (i : Int) + 1) (by omega) (by omega), w64 (by omega) (by omega), show ((i : Int).toNat) = i from by omega]
      have := hk k (by omega)
      rw [show (1 + (((i + 1 : Nat) : Int))) = 1 + (i : Int) + 1 from by omega, show (((i + 1 : Nat) : Int)) = (i : Int) + 1 from by omega] at this
      exact this
  obtain ⟨m, ⟨hm1, hm2⟩, hm3⟩ := go l.length l 0 rfl (by omega) (by intro j hj; omega)
  have ho : ∀ (d k i : Nat), i + d = m.length → d < k → ay.l0 k m (1 + (i : Int)) i = some (1 + (l.length : Int)) := by
    intro d
    induction d with
    | zero =>
      intro k i h2 h3
      obtain ⟨k, rfl⟩ : ∃ m, k = m + 1 := ⟨k - 1, by omega⟩
      simp only [ay.l0]
      rw [if_neg (by omega)]
      obtain rfl : i = l.length := by omega
      rfl
    | succ d ih =>
      intro k i h2 h3
      obtain ⟨k, rfl⟩ : ∃ m, k = m + 1 := ⟨k - 1, by omega⟩
      simp only [ay.l0]
      have e1 := hm2 i (by omega)
      rw [rd_nat m i (by omega)] at e1
      rw [if_pos (by omega), if_pos (by omega), if_pos (Option.some.inj e1), w64 (n := 1 + (i : Int) + 1) (by omega) (by omega), w64 (by omega) (by omega)]
      have := ih k (i + 1) (by omega) (by omega)
      rw [show (1 + (((i + 1 : Nat) : Int))) = 1 + (i : Int) + 1 from by omega, show (((i + 1 : Nat) : Int)) = (i : Int) + 1 from by omega] at this
      exact this
  exact ⟨m, ⟨hm1, l.length + 1, fun k hk => hm3 k (by omega)⟩, l.length + 1, fun k hk => ho m.length k 0 (by omega) (by omega)⟩
theorem ej (p : Int) : (aq.f p = some true ∧ (p = 2 ∨ p = 3 ∨ p = 5 ∨ p = 7)) ∨ (aq.f p = some false ∧ ¬ (p = 2 ∨ p = 3 ∨ p = 5 ∨ p = 7)) := by
  unfold aq.f
  by_cases h2 : p = 2
  · simp [h2]
  by_cases h3 : p = 3
  · simp [h3]
  by_cases h5 : p = 5
  · simp [h5]
  by_cases h7 : p = 7
  · simp [h7]
  · simp [h2, h3, h5, h7]
theorem isPrime_eq (p : Int) : cm.f p = aq.f p := rfl
theorem in_eq (n a b : Int) : av.f n a b = some (decide (a ≤ n ∧ n ≤ b)) := by
  unfold av.f
  by_cases h : a ≤ n
  · rw [if_pos h]; simp [h]
  · rw [if_neg (by omega)]; simp [h]
def allB (m : Int) (l : List Int) : Bool := l.all fun x => decide (-m ≤ x ∧ x ≤ m)
theorem allB_drop (m : Int) (l : List Int) (i : Nat) (h : i < l.length) : allB m (l.drop i) = (decide (-m ≤ rd l i ∧ rd l i ≤ m) && allB m (l.drop (i + 1))) := by
  have h1 := rd_nat l i h
  rw [List.getElem?_eq_getElem h] at h1
  rw [List.drop_eq_getElem_cons h, Option.some.inj h1]; rfl
theorem allB_rd {m : Int} {l : List Int} (h : allB m l = true) {i : Int} (h0 : 0 ≤ i) (h1 : i < l.length) : -m ≤ rd l i ∧ rd l i ≤ m := by
  obtain ⟨n, rfl⟩ := Int.eq_ofNat_of_zero_le h0
  have h2 := rd_nat l n (by omega)
  rw [List.getElem?_eq_getElem (by omega)] at h2
  unfold allB at h
  rw [List.all_eq_true] at h
  have := h (l[n]'(by omega)) (List.getElem_mem _)
  rw [Option.some.inj h2] at this
  simpa using this
theorem within_eq (m : Int) (hm : 0 ≤ m) (hm2 : m ≤ 1000000000000000000) (l : List Int) (hl : l.length ≤ 1048576) : ∃ K, ∀ k, K ≤ k → bb.f k m l = some (allB m l) := by
  have go : ∀ (d k i : Nat), i + d = l.length → d < k → bb.l0 k m l l.length i = some (allB m (l.drop i)) := by
    intro d
    induction d with
    | zero =>
      intro k i h2 h3
      obtain ⟨k, rfl⟩ : ∃ m, k = m + 1 := ⟨k - 1, by omega⟩
      simp only [bb.l0]
      rw [if_neg (by omega), List.drop_eq_nil_of_le (by omega)]; rfl
    | succ d ih =>
      intro k i h2 h3
      obtain ⟨k, rfl⟩ : ∃ m, k = m + 1 := ⟨k - 1, by omega⟩
      simp only [bb.l0]
      rw [if_pos (by omega), if_pos (by omega), if_pos (by omega), allB_drop _ _ _ (by omega), w64 (n := -m) (by omega) (by omega), w64 (by omega) (by omega)]
      have := ih k (i + 1) (by omega) (by omega)
      rw [show ((i : Int) + 1) = ((i + 1 : Nat) : Int) from by omega, this]
      by_cases h : rd l (i : Int) < -m
      · rw [if_pos h, decide_eq_false (by omega)]; rfl
      · rw [if_neg h]
        by_cases h' : rd l (i : Int) > m
        · rw [if_pos h', decide_eq_false (by omega)]; rfl
        · rw [if_neg h', decide_eq_true (by omega)]; rfl
  exact ⟨l.length + 1, fun k hk => by
    have := go l.length k 0 (by omega) (by omega)
    simpa [bb.f] using this⟩
def fc (p i : Int) : Int := if i = 0 then 1 else p + 2 + (i - 1) * p
def cn (p i : Int) : Int := if i = 0 then p + 1 else p
def kids (p i : Int) (n : Nat) : List Int := (List.range n).map fun j : Nat => fc p i + (j : Int)
theorem fc_bd (p i : Int) (hp : p = 2 ∨ p = 3 ∨ p = 5 ∨ p = 7) (h0 : 0 ≤ i) (h1 : i ≤ 5000) : i < fc p i ∧ 1 ≤ fc p i ∧ fc p i ≤ 40000 ∧ 2 ≤ cn p i ∧ cn p i ≤ 8 ∧ fc p i + cn p i = p * i + p + 2 := by
  unfold fc cn
  rcases hp with rfl | rfl | rfl | rfl <;> split <;> omega
theorem kids_succ (p i : Int) (n : Nat) : kids p i (n + 1) = kids p i n ++ [fc p i + (n : Int)] := by
  unfold kids; rw [List.range_succ, List.map_append]; rfl
theorem kids_length (p i : Int) (n : Nat) : (kids p i n).length = n := by simp [kids]
theorem kids_rd (p i : Int) (n j : Nat) (h : j < n) : rd (kids p i n) (j : Int) = fc p i + (j : Int) := by
  have := rd_nat (kids p i n) j (by rw [kids_length]; exact h)
  simp only [kids, List.getElem?_map] at this
  rw [List.getElem?_range h] at this
  exact (Option.some.inj this).symm
def sumC (f : List Int) (a : Int) : Nat → Int → Int
  | 0, s => s
  | n + 1, s => sumC f (a + 1) n (wrap64 (s + rd f a))
theorem place_bd (p i : Int) (hp : p = 2 ∨ p = 3 ∨ p = 5 ∨ p = 7) (h0 : 1 ≤ i) (h1 : i ≤ 5000) : 0 ≤ (if i ≤ p + 1 then 0 else (i - p - 2) / p + 1) ∧ (if i ≤ p + 1 then 0 else (i - p - 2) / p + 1) < i := by
  rcases hp with rfl | rfl | rfl | rfl <;> split <;> omega
theorem all_drop {α : Type} (P : α → Bool) (l : List α) (i : Nat) (h : i < l.length) : (l.drop i).all P = (P (l[i]'h) && (l.drop (i + 1)).all P) := by
  rw [List.drop_eq_getElem_cons h]; rfl
theorem prDef (p : Int) : PM.Pr p = (p = 2 ∨ p = 3 ∨ p = 5 ∨ p = 7) := rfl
theorem dM (n p : Int) : n.tmod p = 0 ↔ p ∣ n := Int.dvd_iff_tmod_eq_zero.symm
theorem fO (p n : Int) (hp : Pr p) (hn : n ≠ 0) (hb : n.natAbs ≤ 9223372036854775807) : ∀ k, 70 ≤ k → ak.f k p n = some (vl p n : Int) := by
  have hp2 := hp.pos
  have go : ∀ (v k : Nat) (n s : Int), n ≠ 0 → n.natAbs ≤ 9223372036854775807 → vl p n = v → v < k → 0 ≤ s → s + v ≤ 1000000 → ak.l0 k p n s = some (s + v) := by
    intro v
    induction v with
    | zero =>
      intro k n s hn hb hv hk h0 h1
      obtain ⟨k, rfl⟩ : ∃ m, k = m + 1 := ⟨k - 1, by omega⟩
      simp only [ak.l0]
      rw [if_neg (by omega), if_neg (by rw [dM]; exact (d4 hp hn).1 hv)]
      simp
    | succ v ih =>
      intro k n s hn hb hv hk h0 h1
      obtain ⟨k, rfl⟩ : ∃ m, k = m + 1 := ⟨k - 1, by omega⟩
      have hd : p ∣ n := Decidable.byContradiction fun h => by have := (d4 hp hn).2 h; omega
      obtain ⟨g1, g2, g3⟩ := vl_step hp hn hd
      simp only [ak.l0]
      rw [if_neg (by omega), if_pos (by rw [dM]; exact hd), w64 (n := n.tdiv p) (by omega) (by omega), w64 (n := s + 1) (by omega) (by omega), ih k _ _ g1 (by omega) (by omega) (by omega) (by omega) (by omega)]
      congr 1; omega
  intro k hk
  have hle := cz hp hn (by omega)
  unfold ak.f
  rw [go (vl p n) k n 0 hn hb rfl (by omega) (by omega) (by omega)]
  congr 1; omega
theorem cU (p n : Int) (hp : Pr p) (hb : n.natAbs ≤ 9223372036854775807) : ∀ k, 70 ≤ k → aa.f k p n = some (vz p n) := by
  have hp2 := hp.pos
  have go : ∀ (v k : Nat) (n s : Int), n ≠ 0 → n.natAbs ≤ 9223372036854775807 → vl p n = v → v < k → 0 ≤ s → s + v ≤ 1000000 → aa.l0 k p n s = some (s + v) := by
    intro v
    induction v with
    | zero =>
      intro k n s hn hb hv hk h0 h1
      obtain ⟨k, rfl⟩ : ∃ m, k = m + 1 := ⟨k - 1, by omega⟩
      simp only [aa.l0]
      rw [if_neg (by omega), if_neg (by rw [dM]; exact (d4 hp hn).1 hv)]
      simp
    | succ v ih =>
      intro k n s hn hb hv hk h0 h1
      obtain ⟨k, rfl⟩ : ∃ m, k = m + 1 := ⟨k - 1, by omega⟩
      have hd : p ∣ n := Decidable.byContradiction fun h => by have := (d4 hp hn).2 h; omega
      obtain ⟨g1, g2, g3⟩ := vl_step hp hn hd
      simp only [aa.l0]
      rw [if_neg (by omega), if_pos (by rw [dM]; exact hd), w64 (n := n.tdiv p) (by omega) (by omega), w64 (n := s + 1) (by omega) (by omega), ih k _ _ g1 (by omega) (by omega) (by omega) (by omega) (by omega)]
      congr 1; omega
  intro k hk
  unfold aa.f vz
  by_cases h0 : n = 0
  · rw [if_pos h0, if_pos h0]
  · have hle := cz hp h0 (by omega)
    rw [if_neg h0, if_neg h0, go (vl p n) k n 0 h0 hb rfl (by omega) (by omega) (by omega)]
    congr 1; omega
theorem pw_bd (p k : Int) (hp : Pr p) (h : k ≤ 20) : 1 ≤ pw p k ∧ pw p k ≤ 79792266297612001 := by
  have h1 := bW hp k
  have h2 := fd hp h
  have h3 : pw p 20 ≤ 79792266297612001 := by
    rcases hp with rfl | rfl | rfl | rfl <;> decide +kernel
  omega
theorem cj (p k : Int) (hp : Pr p) (h : k ≤ 12) : 1 ≤ pw p k ∧ pw p k ≤ 13841287201 := by
  have h1 := bW hp k
  have h2 := fd hp h
  have h3 : pw p 12 ≤ 13841287201 := by
    rcases hp with rfl | rfl | rfl | rfl <;> decide +kernel
  omega
theorem pw_bd6 (p k : Int) (hp : Pr p) (h : k ≤ 6) : 1 ≤ pw p k ∧ pw p k ≤ 117649 := by
  have h1 := bW hp k
  have h2 := fd hp h
  have h3 : pw p 6 ≤ 117649 := by
    rcases hp with rfl | rfl | rfl | rfl <;> decide +kernel
  omega
theorem pw_succ (p k : Int) (h : 0 ≤ k) : pw p (k + 1) = pw p k * p := by
  rw [pw_add h (by omega), pw_one]
theorem cI (p n : Int) (hp : Pr p) (h : n ≤ 20) (h0 : -9223372036854775808 ≤ n) : ∀ k, 30 ≤ k → aJ.f k p n = some (pw p n) := by
  have hp2 := hp.pos
  have go : ∀ (d k : Nat) (n out j : Int), n = d → 0 ≤ j → j + d ≤ 20 → d < k → out = pw p j → aJ.l0 k p n out = some (pw p (j + d)) := by
    intro d
    induction d with
    | zero =>
      intro k n out j hn hj hs hk ho
      obtain ⟨k, rfl⟩ : ∃ m, k = m + 1 := ⟨k - 1, by omega⟩
      simp only [aJ.l0]
      rw [if_neg (by omega), ho]; simp
    | succ d ih =>
      intro k n out j hn hj hs hk ho
      obtain ⟨k, rfl⟩ : ∃ m, k = m + 1 := ⟨k - 1, by omega⟩
      simp only [aJ.l0]
      have hb := pw_bd p (j + 1) hp (by omega)
      have hs1 := pw_succ p j hj
      rw [if_pos (by omega), w64 (n := n - 1) (by omega) (by omega), ho, ← hs1, w64 (by omega) (by omega), ih k (n - 1) _ (j + 1) (by omega) (by omega) (by omega) (by omega) rfl]
      congr 2; omega
  intro k hk
  unfold aJ.f
  by_cases h1 : n ≤ 0
  · obtain ⟨k, rfl⟩ : ∃ m, k = m + 1 := ⟨k - 1, by omega⟩
    simp only [aJ.l0]
    rw [if_neg (by omega)]
    simp [pw, show n.toNat = 0 by omega]
  · rw [go n.toNat k n 1 0 (by omega) (by omega) (by omega) (by omega) (by simp [pw])]
    congr 2; omega
theorem dg (p n : Int) (hp : Pr p) (h : n ≤ 20) : ∀ k, 30 ≤ k → ag.f k p n = some (pw p n) := by
  have hp2 := hp.pos
  have go : ∀ (d k : Nat) (n out j : Int), n = j + d → 0 ≤ j → n ≤ 20 → d < k → out = pw p j → ag.l0 k p out n j = some (pw p n) := by
    intro d
    induction d with
    | zero =>
      intro k n out j hn hj hs hk ho
      obtain ⟨k, rfl⟩ : ∃ m, k = m + 1 := ⟨k - 1, by omega⟩
      simp only [ag.l0]
      rw [if_neg (by omega), ho]
      congr 2; omega
    | succ d ih =>
      intro k n out j hn hj hs hk ho
      obtain ⟨k, rfl⟩ : ∃ m, k = m + 1 := ⟨k - 1, by omega⟩
      simp only [ag.l0]
      have hb := pw_bd p (j + 1) hp (by omega)
      have hs1 := pw_succ p j hj
      rw [if_pos (by omega), w64 (n := j + 1) (by omega) (by omega), ho, ← hs1, w64 (by omega) (by omega), ih k n _ (j + 1) (by omega) (by omega) (by omega) (by omega) rfl]
  intro k hk
  unfold ag.f
  by_cases h1 : n ≤ 0
  · obtain ⟨k, rfl⟩ : ∃ m, k = m + 1 := ⟨k - 1, by omega⟩
    simp only [ag.l0]
    rw [if_neg (by omega)]
    simp [pw, show n.toNat = 0 by omega]
  · rw [go n.toNat k n 1 0 (by omega) (by omega) (by omega) (by omega) (by simp [pw])]
theorem mx_neg (a : Int) (h : a.natAbs ≤ 9223372036854775807) : mx a (wrap64 (-a)) = (a.natAbs : Int) := by
  rw [w64 (by omega) (by omega)]; unfold mx; split <;> omega
theorem gcd_tmod (a b : Int) : Int.gcd b (a.tmod b) = Int.gcd a b := by
  have h := Int.gcd_add_mul_left_right b (a.tmod b) (a.tdiv b)
  rw [Int.tmod_add_mul_tdiv] at h
  rw [Int.gcd_comm a b]; exact h.symm
theorem isE_bd {n d : Int} (h : isE n d) : -1000000 ≤ n ∧ n ≤ 1000000 ∧ 0 ≤ d ∧ d ≤ 1000000 := by unfold isE at h; omega
theorem mul_bd {a b : Int} (h1 : -1000000 ≤ a) (h2 : a ≤ 1000000) (h3 : -1000000 ≤ b) (h4 : b ≤ 1000000) : -1000000000000 ≤ a * b ∧ a * b ≤ 1000000000000 := by
  have h : (a * b).natAbs ≤ 1000000 * 1000000 := by rw [Int.natAbs_mul]; exact Nat.mul_le_mul (by omega) (by omega)
  omega
def crs (n1 d1 n2 d2 : Int) : Int := n1 * d2 - n2 * d1
theorem crs_bd {n1 d1 n2 d2 : Int} (h1 : isE n1 d1) (h2 : isE n2 d2) : (crs n1 d1 n2 d2).natAbs ≤ 2000000000000 := by
  have a := isE_bd h1; have b := isE_bd h2
  have c := mul_bd (a := n1) (b := d2) (by omega) (by omega) (by omega) (by omega)
  have d := mul_bd (a := n2) (b := d1) (by omega) (by omega) (by omega) (by omega)
  unfold crs; omega
theorem crs_zero {n1 d1 n2 d2 : Int} (h1 : isE n1 d1) (h2 : isE n2 d2) (h : crs n1 d1 n2 d2 = 0) : n1 = n2 ∧ d1 = d2 := by
  unfold crs at h
  rcases h1 with ⟨a1, a2⟩ | ⟨a1, a2, a3, a4, a5⟩
  · rcases h2 with ⟨b1, b2⟩ | ⟨b1, b2, b3, b4, b5⟩
    · omega
    · subst a1 a2; simp at h; omega
  · rcases h2 with ⟨b1, b2⟩ | ⟨b1, b2, b3, b4, b5⟩
    · subst b1 b2; simp at h; omega
    · have e : n1 * d2 = n2 * d1 := by omega
      have e1 : d1 ∣ d2 := PM.dvd_of_dvd_mul_right_of_gcd_one (a := d1) (b := n1) (c := d2) ⟨n2, by rw [e, Int.mul_comm]⟩ (by rw [Int.gcd_comm]; exact a5)
      have e2 : d2 ∣ d1 := PM.dvd_of_dvd_mul_right_of_gcd_one (a := d2) (b := n2) (c := d1) ⟨n1, by rw [← e, Int.mul_comm]⟩ (by rw [Int.gcd_comm]; exact b5)
      have e3 : d1 = d2 := Int.dvd_antisymm (by omega) (by omega) e1 e2
      subst e3
      exact ⟨Int.eq_of_mul_eq_mul_right (by omega) e, rfl⟩
def gapz (p n1 d1 n2 d2 : Int) : Int := (vl p (crs n1 d1 n2 d2) : Int) - vl p d1 - vl p d2
theorem eP (p : Int) (lv top dn : Int) : PM.Ok p ⟨lv, top, dn⟩ ↔ (-6 ≤ lv ∧ lv ≤ 6 ∧ 0 ≤ dn ∧ dn ≤ 6) ∧ ((lv + dn ≤ 0 ∧ top = 0 ∧ dn = 0) ∨ (0 < lv + dn ∧ 0 ≤ top ∧ top < pw p (lv + dn) ∧ (dn = 0 ∨ ¬ p ∣ top))) := by
  unfold PM.Ok; simp only; constructor
  · intro ⟨a, b, c, d, e⟩; exact ⟨⟨a, b, c, d⟩, e⟩
  · intro ⟨⟨a, b, c, d⟩, e⟩; exact ⟨a, b, c, d, e⟩
theorem l01Is_eq (p lv top dn : Int) : ∀ k, 32 ≤ k → bo.f k p lv top dn = some (decide (Pr p ∧ PM.Ok p ⟨lv, top, dn⟩)) := by
  intro k hk
  obtain ⟨k, rfl⟩ : ∃ m, k = m + 1 := ⟨k - 1, by omega⟩
  have jt : bo.j0 (k + 1) p true lv top dn = some false := by simp [bo.j0]
  unfold bo.f
  rcases ej p with ⟨h, hp⟩ | ⟨h, hp⟩
  · have hp : Pr p := hp
    rw [h, in_eq, in_eq]
    simp only [Option.bind_some, if_true]
    by_cases h1 : -6 ≤ lv ∧ lv ≤ 6
    · rw [decide_eq_true h1, if_pos rfl]
      by_cases h2 : 0 ≤ dn ∧ dn ≤ 6
      · rw [decide_eq_true h2]
        simp only [Bool.not_true, bo.j0]
        rw [if_neg (by simp), w64 (by omega) (by omega)]
        by_cases h3 : lv + dn ≤ 0
        · rw [if_pos h3]
          by_cases h4 : top = 0
          · rw [if_pos h4]
            congr 1; rw [Bool.eq_iff_iff]
            simp only [decide_eq_true_eq, eP, beq_iff_eq]
            constructor
            · intro h5; exact ⟨hp, ⟨by omega, Or.inl ⟨h3, h4, h5⟩⟩⟩
            · intro ⟨_, _, h5⟩; omega
          · rw [if_neg h4, decide_eq_false]
            rw [eP]; intro ⟨_, _, h5⟩; omega
        · rw [if_neg h3, cI p _ hp (by omega) (by omega) k (by omega)]
          have hb := cj p (lv + dn) hp (by omega)
          simp only [Option.bind_some]
          rw [in_eq, w64 (by omega) (by omega)]
          simp only [Option.bind_some]
          by_cases h4 : 0 ≤ top ∧ top ≤ pw p (lv + dn) - 1
          · rw [decide_eq_true h4, if_pos rfl]
            by_cases h5 : dn = 0
            · rw [if_pos h5, decide_eq_true]
              rw [eP]; exact ⟨hp, by omega, Or.inr ⟨by omega, by omega, by omega, Or.inl h5⟩⟩
            · have hp2 := hp.pos
              rw [if_neg h5, if_neg (by omega)]
              congr 1; rw [Bool.eq_iff_iff]
              simp only [decide_eq_true_eq, eP, bne_iff_ne, ne_eq, dM]
              constructor
              · intro h6; exact ⟨hp, by omega, Or.inr ⟨by omega, by omega, by omega, Or.inr h6⟩⟩
              · intro ⟨_, _, h6⟩ h7
                rcases h6 with h6 | ⟨_, _, _, h6⟩
                · omega
                · rcases h6 with h6 | h6
                  · exact h5 h6
                  · exact h6 h7
          · rw [decide_eq_false h4, if_neg (by simp), decide_eq_false]
            rw [eP]; intro ⟨_, _, h5⟩; omega
      · rw [decide_eq_false h2, Bool.not_false, jt, decide_eq_false]
        rw [eP]; intro ⟨_, h5, _⟩; omega
    · rw [decide_eq_false h1, if_neg (by simp), jt, decide_eq_false]
      rw [eP]; intro ⟨_, h5, _⟩; omega
  · rw [h]
    simp only [Option.bind_some]
    rw [if_neg (by simp), jt, decide_eq_false]
    intro ⟨h1, _⟩; exact hp h1
def bOk (p : Int) (x : S43) : Bool := decide (PM.Ok p ⟨x.f0, x.f1, x.f2⟩)
theorem rdB (l : List S43) (i : Nat) (h : i < l.length) : aD l (i : Int) = l[i]'h := by
  unfold aD; simp [List.getD_eq_getElem?_getD, h]
theorem l01Code_eq (p : Int) (l : List S43) (hl : l.length ≤ 1000) : ∃ K, ∀ k, K ≤ k → bR.f k p l = some (if Pr p ∧ l.all (bOk p) = true then 0 else 1) := by
  rcases ej p with ⟨h, hp⟩ | ⟨h, hp⟩
  · have hp : Pr p := hp
    have go : ∀ (d i k : Nat), i + d = l.length → d + 34 ≤ k → bR.l0 k p l i = some (if (l.drop i).all (bOk p) = true then 0 else 1) := by
      intro d
      induction d with
      | zero =>
        intro i k hi hk
        obtain ⟨k, rfl⟩ : ∃ m, k = m + 1 := ⟨k - 1, by omega⟩
        simp only [bR.l0]
        rw [if_neg (by omega), List.drop_eq_nil_of_le (by omega)]; rfl
      | succ d ih =>
        intro i k hi hk
        obtain ⟨k, rfl⟩ : ∃ m, k = m + 1 := ⟨k - 1, by omega⟩
        simp only [bR.l0]
        rw [if_pos (by omega), if_pos (by omega), rdB l i (by omega), l01Is_eq _ _ _ _ k (by omega), all_drop (bOk p) l i (by omega), w64 (by omega) (by omega), show ((i : Int) + 1) = ((i + 1 : Nat) : Int) from by omega, ih (i + 1) k (by omega) (by omega)]
        simp only [Option.bind_some]
        show _ = some (if (decide (PM.Ok _ _) && _) = true then _ else _)
        by_cases h : PM.Ok p ⟨(l[i]'(by omega)).f0, (l[i]'(by omega)).f1, (l[i]'(by omega)).f2⟩
        · rw [decide_eq_true h, decide_eq_true ⟨hp, h⟩]; simp
        · rw [decide_eq_false h, decide_eq_false (fun g => h g.2)]; simp
    refine ⟨l.length + 34, fun k hk => ?_⟩
    unfold bR.f
    rw [h]
    simp only [Option.bind_some, if_true]
    have := go l.length 0 k (by omega) (by omega)
    rw [show ((0 : Nat) : Int) = 0 from rfl, List.drop_zero] at this
    rw [this]
    by_cases g : l.all (bOk p) = true
    · rw [if_pos g, if_pos ⟨hp, g⟩]
    · rw [if_neg g, if_neg (fun z => g z.2)]
  · refine ⟨0, fun k _ => ?_⟩
    unfold bR.f
    rw [h]
    simp only [Option.bind_some]
    rw [if_neg (by simp), if_neg (fun z => hp z.1)]
theorem db {a b : Int} (A B : Int) (h1 : -A ≤ a) (h2 : a ≤ A) (h3 : -B ≤ b) (h4 : b ≤ B) : -(A * B) ≤ a * b ∧ a * b ≤ A * B := by
  have hA : 0 ≤ A := by omega
  have hB : 0 ≤ B := by omega
  have h : (a * b).natAbs ≤ A.natAbs * B.natAbs := by
    rw [Int.natAbs_mul]; exact Nat.mul_le_mul (by omega) (by omega)
  rw [← Int.natAbs_mul] at h
  have : 0 ≤ A * B := Int.mul_nonneg hA hB
  omega
theorem mn_min (a b : Int) : mn a b = min a b := by unfold mn; split <;> omega
theorem mx_max (a b : Int) : mx a b = max a b := by unfold mx; split <;> omega
theorem okb {p lv top dn : Int} (h : PM.Ok p ⟨lv, top, dn⟩) : -6 ≤ lv ∧ lv ≤ 6 ∧ 0 ≤ dn ∧ dn ≤ 6 ∧ 0 ≤ top := by
  unfold PM.Ok at h; simp only at h; omega
theorem ok_top {p lv top dn : Int} (hp : Pr p) (h : PM.Ok p ⟨lv, top, dn⟩) : 0 ≤ top ∧ top ≤ 13841287201 := by
  have hb := okb h
  have := cj p (lv + dn) hp (by omega)
  unfold PM.Ok at h; simp only at h; omega
theorem mark_bd12 {p lv top dn : Int} (hp : Pr p) (h : PM.Ok p ⟨lv, top, dn⟩) : 0 ≤ PM.mark p ⟨lv, top, dn⟩ ∧ PM.mark p ⟨lv, top, dn⟩ ≤ 13841287201 := by
  have hb := okb h
  have := PM.mark_bd hp h
  have := cj p (lv + 6) hp (by omega)
  simp only at *; omega
theorem fg {p lv top dn : Int} (hp : Pr p) (h : PM.Ok p ⟨lv, top, dn⟩) : ∀ k, 30 ≤ k → cJ.f k p lv top dn = some (PM.mark p ⟨lv, top, dn⟩) := by
  intro k hk
  have hb := okb h
  have hm := mark_bd12 hp h
  unfold cJ.f
  rw [w64 (n := 6 - dn) (by omega) (by omega), dg p _ hp (by omega) k hk]
  simp only [Option.bind_some]
  unfold PM.mark at hm ⊢
  simp only at hm ⊢
  rw [w64 (by omega) (by omega)]
theorem u64w (n : Int) : IntKind.u64.wrap n = n % 18446744073709551616 := by rw [IntKind.wrap_u64]
theorem df {n : Int} (h0 : 0 ≤ n) (h1 : n < 18446744073709551616) : IntKind.u64.wrap n = n := by rw [u64w]; omega
theorem and_low {a : Int} (h0 : 0 ≤ a) (h1 : a < 18446744073709551616) : Go.bits .and .u64 a 4294967295 = a % 4294967296 := by
  obtain ⟨n, rfl⟩ := Int.eq_ofNat_of_zero_le h0
  rw [show (4294967295 : Int) = ((4294967295 : Nat) : Int) from rfl, Go.bits_and_u64_nat n 4294967295 (by omega) (by omega)]
  rw [show (4294967295 : Nat) = 2 ^ 32 - 1 from rfl, Nat.and_two_pow_sub_one_eq_mod]
  omega
theorem or_sum {a b : Int} (s : Nat) (h0 : 0 ≤ a) (h1 : 0 ≤ b) (h2 : b < 2 ^ s) (h3 : a * 2 ^ s < 18446744073709551616) (hs : s ≤ 63) : Go.bits .or .u64 (a * 2 ^ s) b = a * 2 ^ s + b := by
  obtain ⟨n, rfl⟩ := Int.eq_ofNat_of_zero_le h0
  obtain ⟨m, rfl⟩ := Int.eq_ofNat_of_zero_le h1
  have e2 : m < 2 ^ s := by
    have : ((2 ^ s : Nat) : Int) = (2 : Int) ^ s := by simp
    omega
  have e3 : (2 : Nat) ^ s ≤ 2 ^ 63 := Nat.pow_le_pow_right (by omega) hs
  have e4 : ((n * 2 ^ s : Nat) : Int) = (n : Int) * 2 ^ s := by simp
  rw [← e4] at h3 ⊢
  rw [Go.bits_or_u64_nat _ _ (by omega) (by omega), Nat.mul_comm, ← Nat.two_pow_add_eq_or_of_lt e2]
  omega
theorem bitLen_bd : ∀ (x : Nat), x ≠ 0 → x < 2 ^ 64 → 1 ≤ Lib.bitLen x ∧ 2 ^ (Lib.bitLen x - 1) ≤ x ∧ x < 2 ^ Lib.bitLen x := by
  intro x
  induction x using Nat.strongRecOn with
  | _ x ih =>
    intro h0 h1
    rw [Lib.bitLen_half x h0 h1]
    by_cases h2 : x / 2 = 0
    · rw [h2, show Lib.bitLen 0 = 0 from rfl]
      have : x = 1 := by omega
      subst this; exact ⟨by omega, by decide, by decide⟩
    · obtain ⟨a, b, c⟩ := ih (x / 2) (by omega) h2 (by omega)
      obtain ⟨l, hl⟩ : ∃ l, Lib.bitLen (x / 2) = l + 1 := ⟨Lib.bitLen (x / 2) - 1, by omega⟩
      rw [hl] at b c ⊢
      rw [show 1 + (l + 1) - 1 = (l + 1 - 1) + 1 by omega, show 1 + (l + 1) = (l + 1) + 1 by omega, Nat.pow_succ, Nat.pow_succ]
      omega
theorem div_l0 {yN s y1 y0 U u un0 : Int} (D : Dg U u y1 y0) : ∀ (m : Nat) (q r : Int) (k : Nat), 2 * m + 3 ≤ k → 4294967296 ≤ r + m * 2147483648 → 0 ≤ r → r < 4294967296 → r = U - q * y1 → dig U u y1 y0 ≤ q → q ≤ 4294967297 → ∃ k', k ≤ k' + (2 * m + 3) ∧ aX.l0 k yN s y1 y0 U u un0 q r = aX.j2 k' yN s y1 y0 U u un0 (dig U u y1 y0) := by
  intro m
  induction m with
  | zero => intro q r k _ h _ h2; omega
  | succ m ih =>
    intro q r k hk hm h0 h1 hr hq hq2
    have hn := D.nn
    have Da := D.a; have Db := D.b; have Dc := D.c; have Dd := D.d; have Dg := D.g; have Dh := D.h
    obtain ⟨k, rfl⟩ : ∃ j, k = j + 2 := ⟨k - 2, by omega⟩
    have e : aX.l0 (k + 2) yN s y1 y0 U u un0 q r = aX.j1 (k + 1) yN s y1 y0 U u un0 q r (decide (dig U u y1 y0 < q)) := by
      rw [show k + 2 = (k + 1) + 1 from rfl, aX.l0]
      by_cases hB : q ≥ 4294967296
      · rw [if_pos hB, decide_eq_true (by have := D.top; omega)]
      · rw [if_neg hB]
        have hc := D.cond hr
        have b1 : q * y0 ≤ 4294967295 * 4294967295 := Int.mul_le_mul (by omega) (by omega) (by omega) (by omega)
        have b0 : 0 ≤ q * y0 := Int.mul_nonneg (by omega) (by omega)
        rw [df (n := q * y0) b0 (by omega), df (n := 4294967296 * r) (by omega) (by omega), df (n := 4294967296 * r + u) (by omega) (by omega)]
        rw [decide_eq_decide.mpr hc.symm]
    rw [e, aX.j1]
    by_cases hc : dig U u y1 y0 < q
    · rw [decide_eq_true hc, if_pos rfl, df (n := r + y1) (by omega) (by omega), df (n := q - 1) (by omega) (by omega)]
      have hr' : r + y1 = U - (q - 1) * y1 := by rw [Int.sub_mul]; omega
      by_cases hb : r + y1 ≥ 4294967296
      · rw [if_pos hb]
        have := D.brk hr' hb (by omega)
        exact ⟨k, by omega, by rw [show q - 1 = dig U u y1 y0 by omega]⟩
      · rw [if_neg hb]
        obtain ⟨k', a, b⟩ := ih (q - 1) (r + y1) k (by omega) (by omega) (by omega) (by omega) hr' (by omega) (by omega)
        exact ⟨k', by omega, b⟩
    · rw [decide_eq_false hc, if_neg (by simp)]
      exact ⟨k, by omega, by rw [show q = dig U u y1 y0 by omega]⟩
theorem div_l1 {yN s y1 y0 R un0 q1 : Int} (hs : 0 ≤ s) (D : Dg R un0 y1 y0) : ∀ (m : Nat) (q r : Int) (k : Nat), 2 * m + 3 ≤ k → 4294967296 ≤ r + m * 2147483648 → 0 ≤ r → r < 4294967296 → r = R - q * y1 → dig R un0 y1 y0 ≤ q → q ≤ 4294967297 → aX.l1 k yN s y1 y0 un0 q1 r R q = some (IntKind.u64.wrap ((IntKind.u64.wrap (q1 * 4294967296)) + dig R un0 y1 y0), shr .u64 (IntKind.u64.wrap ((IntKind.u64.wrap ((IntKind.u64.wrap (R * 4294967296)) + un0)) - (IntKind.u64.wrap (dig R un0 y1 y0 * yN)))) s) := by
  intro m
  induction m with
  | zero => intro q r k _ h _ h2; omega
  | succ m ih =>
    intro q r k hk hm h0 h1 hr hq hq2
    have hn := D.nn
    have Da := D.a; have Db := D.b; have Dc := D.c; have Dd := D.d; have Dg := D.g; have Dh := D.h
    obtain ⟨k, rfl⟩ : ∃ j, k = j + 2 := ⟨k - 2, by omega⟩
    have e : aX.l1 (k + 2) yN s y1 y0 un0 q1 r R q = aX.j4 (k + 1) yN s y1 y0 un0 q1 r R q (decide (dig R un0 y1 y0 < q)) := by
      rw [show k + 2 = (k + 1) + 1 from rfl, aX.l1]
      by_cases hB : q ≥ 4294967296
      · rw [if_pos hB, decide_eq_true (by have := D.top; omega)]
      · rw [if_neg hB]
        have hc := D.cond hr
        have b1 : q * y0 ≤ 4294967295 * 4294967295 := Int.mul_le_mul (by omega) (by omega) (by omega) (by omega)
        have b0 : 0 ≤ q * y0 := Int.mul_nonneg (by omega) (by omega)
        rw [df (n := q * y0) b0 (by omega), df (n := 4294967296 * r) (by omega) (by omega), df (n := 4294967296 * r + un0) (by omega) (by omega)]
        rw [decide_eq_decide.mpr hc.symm]
    rw [e, aX.j4]
    by_cases hc : dig R un0 y1 y0 < q
    · rw [decide_eq_true hc, if_pos rfl, df (n := r + y1) (by omega) (by omega), df (n := q - 1) (by omega) (by omega)]
      have hr' : r + y1 = R - (q - 1) * y1 := by rw [Int.sub_mul]; omega
      by_cases hb : r + y1 ≥ 4294967296
      · rw [if_pos hb, if_pos hs]
        have := D.brk hr' hb (by omega)
        rw [show q - 1 = dig R un0 y1 y0 by omega]
      · rw [if_neg hb]
        exact ih (q - 1) (r + y1) k (by omega) (by omega) (by omega) (by omega) hr' (by omega) (by omega)
    · rw [decide_eq_false hc, if_neg (by simp), if_pos hs, show q = dig R un0 y1 y0 by omega]
theorem wr_sub (a b : Int) : IntKind.u64.wrap (IntKind.u64.wrap a - IntKind.u64.wrap b) = IntKind.u64.wrap (a - b) := by
  simp only [u64w]; omega
theorem wr_add (a b : Int) : IntKind.u64.wrap (IntKind.u64.wrap a + b) = IntKind.u64.wrap (a + b) := by
  simp only [u64w]; omega
theorem div64_eq {hi lo y : Int} (h0 : 0 ≤ hi) (h1 : hi < y) (h2 : y < 18446744073709551616) (h3 : 0 ≤ lo) (h4 : lo < 18446744073709551616) : ∀ k, 40 ≤ k → aX.f k hi lo y = some ((hi * 18446744073709551616 + lo) / y, (hi * 18446744073709551616 + lo) % y) := by
  intro k hk
  unfold aX.f
  rw [if_neg (by omega), if_neg (by omega)]
  by_cases hz : hi = 0
  · subst hz
    rw [if_pos rfl, Int.tdiv_eq_ediv_of_nonneg h3, Int.tmod_eq_emod_of_nonneg h3]
    have a1 := Int.ediv_nonneg h3 (show 0 ≤ y by omega)
    have a2 := Int.ediv_le_self y h3
    rw [df a1 (by omega), show (0 : Int) * 18446744073709551616 + lo = lo by omega]
  · rw [if_neg hz]
    have hb := bitLen_bd y.toNat (by omega) (by omega)
    have hle : Lib.bitLen y.toNat ≤ 64 := by
      rcases Nat.lt_or_ge 64 (Lib.bitLen y.toNat) with h | h
      · have := Nat.pow_le_pow_right (show 0 < 2 by omega) (show 64 ≤ Lib.bitLen y.toNat - 1 by omega)
        omega
      · exact h
    unfold bits_LeadingZeros64.f
    rw [if_pos (by omega)]
    simp only [Option.bind_some]
    obtain ⟨s, hs⟩ : ∃ s : Nat, s = 64 - Lib.bitLen y.toNat := ⟨_, rfl⟩
    rw [show (64 - (Lib.bitLen y.toNat : Int)) = (s : Int) by omega, df (n := (s : Int)) (by omega) (by omega), df (n := 64 - (s : Int)) (by omega) (by omega), if_pos (by omega), if_pos (by omega)]
    have hs63 : s ≤ 63 := by omega
    obtain ⟨P, hP⟩ : ∃ P : Int, P = 2 ^ s := ⟨_, rfl⟩
    obtain ⟨Q, hQ⟩ : ∃ Q : Int, Q = 2 ^ (64 - s) := ⟨_, rfl⟩
    have hPQ : P * Q = 18446744073709551616 := by
      rw [hP, hQ, ← Int.pow_add, show s + (64 - s) = 64 by omega]; decide
    have hP0 : 0 < P := by rw [hP]; exact Int.pow_pos (by omega)
    have hQ0 : 0 < Q := by rw [hQ]; exact Int.pow_pos (by omega)
    have hyP : 9223372036854775808 ≤ y * P ∧ y * P < 18446744073709551616 := by
      have e1 : y = ((y.toNat : Nat) : Int) := by omega
      have e2 : y * P = ((y.toNat * 2 ^ s : Nat) : Int) := by
        rw [hP]
        conv => lhs; rw [e1]
        simp
      have e3 : 2 ^ (Lib.bitLen y.toNat - 1) * 2 ^ s ≤ y.toNat * 2 ^ s := Nat.mul_le_mul_right _ hb.2.1
      have e4 : y.toNat * 2 ^ s < 2 ^ (Lib.bitLen y.toNat) * 2 ^ s := Nat.mul_lt_mul_of_pos_right hb.2.2 (Nat.pow_pos (by omega))
      rw [← Nat.pow_add, show Lib.bitLen y.toNat - 1 + s = 63 by omega] at e3
      rw [← Nat.pow_add, show Lib.bitLen y.toNat + s = 64 by omega] at e4
      rw [e2]; omega
    have sh : ∀ x : Int, shl .u64 x (s : Int) = (x * P) % 18446744073709551616 := by
      intro x; unfold shl
      rw [show IntKind.u64.bits = 64 from rfl, Int.toNat_natCast, Nat.min_eq_left (by omega), u64w, hP]
    have sr : ∀ x : Int, shr .u64 x (64 - (s : Int)) = x / Q := by
      intro x; unfold shr
      rw [show IntKind.u64.bits = 64 from rfl, show (64 - (s : Int)).toNat = 64 - s by omega, Nat.min_eq_left (by omega), hQ]
    have sr2 : ∀ x : Int, shr .u64 x (s : Int) = x / P := by
      intro x; unfold shr
      rw [show IntKind.u64.bits = 64 from rfl, Int.toNat_natCast, Nat.min_eq_left (by omega), hP]
    have hhi : hi * P < y * P := Int.mul_lt_mul_of_pos_right h1 hP0
    have hhi0 : 0 ≤ hi * P := Int.mul_nonneg h0 (by omega)
    have hhi1 : hi * P ≤ y * P - P := by
      have := Int.mul_le_mul_of_nonneg_right (show hi ≤ y - 1 by omega) (Int.le_of_lt hP0)
      rw [Int.sub_mul] at this; omega
    have hlQ0 : 0 ≤ lo / Q := Int.ediv_nonneg h3 (by omega)
    have hlQ : lo / Q < P := by rw [Int.ediv_lt_iff_lt_mul hQ0]; omega
    rw [sh, sh, sh, sr, Int.emod_eq_of_lt (a := y * P) (by omega) hyP.2, Int.emod_eq_of_lt (a := hi * P) hhi0 (by omega)]
    have hor : Go.bits .or .u64 (hi * P) (lo / Q) = hi * P + lo / Q := by
      rw [hP] at hlQ hhi hyP ⊢
      exact or_sum s h0 hlQ0 hlQ (by omega) hs63
    rw [hor, and_low (a := y * P) (by omega) hyP.2, and_low (Int.emod_nonneg _ (by omega)) (Int.emod_lt_of_pos _ (by omega))]
    obtain ⟨L, hL⟩ : ∃ L, L = (lo * P) % 18446744073709551616 := ⟨_, rfl⟩
    obtain ⟨U, hU⟩ : ∃ U, U = hi * P + lo / Q := ⟨_, rfl⟩
    have hL0 : 0 ≤ L := by rw [hL]; exact Int.emod_nonneg _ (by omega)
    have hL1 : L < 18446744073709551616 := by rw [hL]; exact Int.emod_lt_of_pos _ (by omega)
    rw [← hL, ← hU]
    obtain ⟨yN, hyN⟩ : ∃ yN, yN = y * P := ⟨_, rfl⟩
    rw [← hyN] at hyP hhi hhi1 ⊢
    obtain ⟨y1, hy1⟩ : ∃ y1, y1 = yN / 4294967296 := ⟨_, rfl⟩
    obtain ⟨y0, hy0⟩ : ∃ y0, y0 = yN % 4294967296 := ⟨_, rfl⟩
    obtain ⟨u1, hu1⟩ : ∃ u1, u1 = L / 4294967296 := ⟨_, rfl⟩
    obtain ⟨u0, hu0⟩ : ∃ u0, u0 = L % 4294967296 := ⟨_, rfl⟩
    rw [← hy1, ← hy0, ← hu1, ← hu0]
    have hyy : y1 * 4294967296 + y0 = yN := by omega
    have D1 : Dg U u1 y1 y0 := ⟨by omega, by omega, by omega, by omega, by omega, by omega, by omega, by omega⟩
    have hy1p : 0 < y1 := by omega
    have hU0 : 0 ≤ U := by omega
    obtain ⟨st1, st2⟩ := D1.start
    have em1 := Int.mul_ediv_add_emod U y1
    have em2 := Int.emod_nonneg U (b := y1) (by omega)
    have em3 := Int.emod_lt_of_pos U hy1p
    have hq0 := Int.ediv_nonneg hU0 (Int.le_of_lt hy1p)
    rw [Int.tdiv_eq_ediv_of_nonneg hU0, df (n := U / y1) hq0 (by omega)]
    have hqy : U / y1 * y1 = U - U % y1 := by rw [Int.mul_comm]; omega
    have hqn := Int.mul_nonneg hq0 (Int.le_of_lt hy1p)
    rw [df (n := U / y1 * y1) (by omega) (by omega), df (n := U - U / y1 * y1) (by omega) (by omega), if_neg (by omega)]
    obtain ⟨k', hk', e⟩ := div_l0 (yN := yN) (s := (s : Int)) (un0 := u0) D1 2 (U / y1) (U - U / y1 * y1) k (by omega) (by omega) (by omega) (by omega) rfl st1 st2
    rw [e]
    obtain ⟨k', rfl⟩ : ∃ j, k' = j + 1 := ⟨k' - 1, by omega⟩
    rw [aX.j2, if_neg (by omega)]
    have hT := D1.nn
    have hTt := D1.top
    have hrem := D1.rem
    rw [hyy] at hrem
    obtain ⟨R, hR⟩ : ∃ R, R = U * 4294967296 + u1 - dig U u1 y1 y0 * yN := ⟨_, rfl⟩
    have hW : IntKind.u64.wrap ((IntKind.u64.wrap ((IntKind.u64.wrap (U * 4294967296)) + u1)) - (IntKind.u64.wrap (dig U u1 y1 y0 * yN))) = R := by
      rw [wr_add, wr_sub, ← hR, df (by omega) (by omega)]
    rw [hW]
    rw [← hR] at hrem
    have D2 : Dg R u0 y1 y0 := ⟨by omega, by omega, by omega, by omega, by omega, by omega, by omega, by omega⟩
    obtain ⟨st3, st4⟩ := D2.start
    have en1 := Int.mul_ediv_add_emod R y1
    have en2 := Int.emod_nonneg R (b := y1) (by omega)
    have en3 := Int.emod_lt_of_pos R hy1p
    have hq3 := Int.ediv_nonneg hrem.1 (Int.le_of_lt hy1p)
    rw [Int.tdiv_eq_ediv_of_nonneg hrem.1, df (n := R / y1) hq3 (by omega)]
    have hqz : R / y1 * y1 = R - R % y1 := by rw [Int.mul_comm]; omega
    have hqm := Int.mul_nonneg hq3 (Int.le_of_lt hy1p)
    rw [df (n := R / y1 * y1) (by omega) (by omega), df (n := R - R / y1 * y1) (by omega) (by omega)]
    rw [div_l1 (by omega) D2 2 (R / y1) (R - R / y1 * y1) k' (by omega) (by omega) (by omega) (by omega) rfl st3 st4]
    have hT2 := D2.nn
    have hTt2 := D2.top
    have hrem2 := D2.rem
    rw [hyy] at hrem2
    obtain ⟨R2, hR2⟩ : ∃ R2, R2 = R * 4294967296 + u0 - dig R u0 y1 y0 * yN := ⟨_, rfl⟩
    have hW2 : IntKind.u64.wrap ((IntKind.u64.wrap ((IntKind.u64.wrap (R * 4294967296)) + u0)) - (IntKind.u64.wrap (dig R u0 y1 y0 * yN))) = R2 := by
      rw [wr_add, wr_sub, ← hR2, df (by omega) (by omega)]
    rw [hW2, sr2]
    rw [← hR2] at hrem2
    have h2d := two_digits hR hR2
    rw [show u1 * 4294967296 + u0 = L by omega, hyN] at h2d
    rw [hyN] at hrem2
    obtain ⟨f1, f2⟩ := normal hP0 hQ0 hPQ hU hL h2d hrem2.1 hrem2.2
    rw [df (n := dig U u1 y1 y0 * 4294967296) (by omega) (by omega), df (by omega) (by omega), f1, f2]
theorem power_eq2 (p n : Int) (hp : Pr p) (h : n ≤ 62) (h1 : pw p n ≤ 4611686018427387904) (h0 : -9223372036854775808 ≤ n) : ∀ k, 70 ≤ k → ag.f k p n = some (pw p n) := by
  have hp2 := hp.pos
  have hle : ∀ j : Int, j ≤ n → 1 ≤ pw p j ∧ pw p j ≤ 4611686018427387904 := fun j hj => by
    have := fd hp hj; have := bW hp j; omega
  have go : ∀ (d k : Nat) (out j : Int), n = j + d → 0 ≤ j → d < k → out = pw p j → ag.l0 k p out n j = some (pw p n) := by
    intro d
    induction d with
    | zero =>
      intro k out j hn hj hk ho
      obtain ⟨k, rfl⟩ : ∃ m, k = m + 1 := ⟨k - 1, by omega⟩
      simp only [ag.l0]
      rw [if_neg (by omega), ho]
      congr 2; omega
    | succ d ih =>
      intro k out j hn hj hk ho
      obtain ⟨k, rfl⟩ : ∃ m, k = m + 1 := ⟨k - 1, by omega⟩
      simp only [ag.l0]
      have hb := hle (j + 1) (by omega)
      have hs1 := pw_succ p j hj
      rw [if_pos (by omega), w64 (n := j + 1) (by omega) (by omega), ho, ← hs1, w64 (by omega) (by omega), ih k _ (j + 1) (by omega) (by omega) (by omega) rfl]
  intro k hk
  unfold ag.f
  by_cases h1 : n ≤ 0
  · obtain ⟨k, rfl⟩ : ∃ m, k = m + 1 := ⟨k - 1, by omega⟩
    simp only [ag.l0]
    rw [if_neg (by omega)]
    simp [pw, show n.toNat = 0 by omega]
  · rw [go n.toNat k 1 0 (by omega) (by omega) (by omega) (by simp [pw])]
theorem fh (p n : Int) (hp : Pr p) (h : n ≤ 62) (h1 : pw p n ≤ 4611686018427387904) (h0 : -9223372036854775808 ≤ n) : ∀ k, 70 ≤ k → aJ.f k p n = some (pw p n) := by
  have hp2 := hp.pos
  have hle : ∀ j : Int, j ≤ n → 1 ≤ pw p j ∧ pw p j ≤ 4611686018427387904 := fun j hj => by
    have := fd hp hj; have := bW hp j; omega
  have go : ∀ (d k : Nat) (m out j : Int), m = d → n = j + d → 0 ≤ j → d < k → out = pw p j → aJ.l0 k p m out = some (pw p n) := by
    intro d
    induction d with
    | zero =>
      intro k m out j hm hn hj hk ho
      obtain ⟨k, rfl⟩ : ∃ m, k = m + 1 := ⟨k - 1, by omega⟩
      simp only [aJ.l0]
      rw [if_neg (by omega), ho]
      congr 2; omega
    | succ d ih =>
      intro k m out j hm hn hj hk ho
      obtain ⟨k, rfl⟩ : ∃ m, k = m + 1 := ⟨k - 1, by omega⟩
      simp only [aJ.l0]
      have hb := hle (j + 1) (by omega)
      have hs1 := pw_succ p j hj
      rw [if_pos (by omega), w64 (n := m - 1) (by omega) (by omega), ho, ← hs1, w64 (by omega) (by omega), ih k (m - 1) _ (j + 1) (by omega) (by omega) (by omega) (by omega) rfl]
  intro k hk
  unfold aJ.f
  by_cases h1 : n ≤ 0
  · obtain ⟨k, rfl⟩ : ∃ m, k = m + 1 := ⟨k - 1, by omega⟩
    simp only [aJ.l0]
    rw [if_neg (by omega)]
    simp [pw, show n.toNat = 0 by omega]
  · rw [go n.toNat k n 1 0 (by omega) (by omega) (by omega) (by omega) (by simp [pw])]
theorem eZ (a m : Int) (hm : 0 < m) : (a.tmod m + m).tmod m = a % m ∧ -m < a.tmod m ∧ a.tmod m < m := by
  have h1 := Int.tmod_lt_of_pos a hm
  have h2 := Int.lt_tmod_of_pos a hm
  have h3 := Int.mul_tdiv_add_tmod a m
  refine ⟨?_, h2, h1⟩
  rw [Int.tmod_eq_emod_of_nonneg (by omega)]
  rw [show a.tmod m + m = a + m * (1 - a.tdiv m) by rw [Int.mul_sub]; omega, Int.add_mul_emod_self_left]
theorem em_mul (a b m : Int) : (a % m * b) % m = a * b % m := by rw [Int.mul_emod, Int.emod_emod, ← Int.mul_emod]
theorem emb (a m : Int) (hm : 0 < m) : 0 ≤ a % m ∧ a % m < m := ⟨Int.emod_nonneg _ (by omega), Int.emod_lt_of_pos _ hm⟩
theorem mod_eq (a m : Int) (hm : 0 < m) (h2 : m ≤ 4611686018427387904) : cf.f a m = some (a % m) := by
  obtain ⟨e, h3, h4⟩ := eZ a m hm
  unfold cf.f
  rw [if_neg (by omega), w64 (by omega) (by omega), e]
theorem times_eq (a b m : Int) (hm : 0 < m) (h2 : m ≤ 4611686018427387904) : ∀ k, 40 ≤ k → dC.f k a b m = some (a * b % m) := by
  intro k hk
  obtain ⟨ha0, ha1⟩ := emb a m hm
  obtain ⟨hb0, hb1⟩ := emb b m hm
  unfold dC.f
  rw [mod_eq a m hm h2, mod_eq b m hm h2]
  simp only [Option.bind_some]
  rw [df ha0 (by omega), df hb0 (by omega), df (n := m) (by omega) (by omega)]
  unfold bits_Mul64.f
  rw [if_pos (by omega)]
  simp only [Option.bind_some]
  obtain ⟨P, hP⟩ : ∃ P, P = a % m * (b % m) := ⟨_, rfl⟩
  have hP0 : 0 ≤ P := by rw [hP]; exact Int.mul_nonneg ha0 hb0
  rw [← hP]
  have hq : 0 ≤ P / 18446744073709551616 := Int.ediv_nonneg hP0 (by omega)
  rw [if_neg (by omega), Int.tmod_eq_emod_of_nonneg hq]
  obtain ⟨c0, c1⟩ := emb (P / 18446744073709551616) m hm
  obtain ⟨d0, d1⟩ := emb P 18446744073709551616 (by omega)
  rw [div64_eq c0 c1 (by omega) d0 d1 k hk]
  simp only [Option.bind_some]
  have e : (P / 18446744073709551616 % m * 18446744073709551616 + P % 18446744073709551616) % m = a * b % m := by
    rw [Int.add_emod, em_mul, ← Int.add_emod, show P / 18446744073709551616 * 18446744073709551616 + P % 18446744073709551616 = P by omega, hP, ← Int.mul_emod]
  rw [e]
  obtain ⟨f0, f1⟩ := emb (a * b) m hm
  rw [w64 (by omega) (by omega)]
theorem fj (a b m : Int) (hm : 0 < m) (h2 : m ≤ 13841287201) : bi.f a b m = some (a * b % m) := by
  obtain ⟨e1, h3, h4⟩ := eZ a m hm
  obtain ⟨e2, h5, h6⟩ := eZ b m hm
  obtain ⟨ha0, ha1⟩ := emb a m hm
  obtain ⟨hb0, hb1⟩ := emb b m hm
  unfold bi.f
  rw [if_neg (by omega), w64 (n := a.tmod m + m) (by omega) (by omega), w64 (n := b.tmod m + m) (by omega) (by omega), e1, e2]
  have em : a * b % m = (a % m) * (b % m) % m := Int.mul_emod a b m
  rw [em]
  generalize a % m = x at *
  generalize b % m = y at *
  rw [Int.tdiv_eq_ediv_of_nonneg hb0, Int.tmod_eq_emod_of_nonneg hb0]
  have m1 := db (a := x) (b := y / 1000000) 13841287201 13842 (by omega) (by omega) (by omega) (by omega)
  have m2 := db (a := x) (b := y % 1000000) 13841287201 1000000 (by omega) (by omega) (by omega) (by omega)
  have n1 : 0 ≤ x * (y / 1000000) := Int.mul_nonneg ha0 (by omega)
  have n2 : 0 ≤ x * (y % 1000000) := Int.mul_nonneg ha0 (by omega)
  rw [w64 (n := y / 1000000) (by omega) (by omega), w64 (n := x * (y / 1000000)) (by omega) (by omega), Int.tmod_eq_emod_of_nonneg n1, w64 (n := x * (y % 1000000)) (by omega) (by omega), Int.tmod_eq_emod_of_nonneg n2]
  obtain ⟨c0, c1⟩ := emb (x * (y / 1000000)) m hm
  obtain ⟨d0, d1⟩ := emb (x * (y % 1000000)) m hm
  rw [w64 (n := x * (y / 1000000) % m * 1000000) (by omega) (by omega), Int.tmod_eq_emod_of_nonneg (a := x * (y / 1000000) % m * 1000000) (by omega)]
  obtain ⟨f0, f1⟩ := emb (x * (y / 1000000) % m * 1000000) m hm
  rw [w64 (by omega) (by omega), Int.tmod_eq_emod_of_nonneg (a := x * (y / 1000000) % m * 1000000 % m + x * (y % 1000000) % m) (by omega)]
  rw [em_mul, ← Int.add_emod]
  congr 2
  have : y = y / 1000000 * 1000000 + y % 1000000 := by omega
  conv => rhs; rw [this]
  rw [Int.mul_add, Int.mul_assoc]
theorem inverse_eq (n m : Int) (hm : 0 < m) (h2 : m ≤ 1099511627776) : ∀ k, m.toNat + 4 ≤ k → bg.f k n m = some (inv n m) := by
  have go : ∀ (j : Nat) (n a b x y : Int) (k : Nat), Inv n m a b x y → b < j → a ≤ m → b ≤ m → x.natAbs ≤ m → y.natAbs ≤ m → j < k → bg.l0 k m a b x y = some (invF j a b x y % m) := by
    intro j
    induction j with
    | zero => intro n a b x y k h hb; have := h.b0; omega
    | succ j ih =>
      intro n a b x y k h hb ham hbm hx hy hk
      obtain ⟨k, rfl⟩ : ∃ i, k = i + 1 := ⟨k - 1, by omega⟩
      have a0 := h.a0; have b0 := h.b0
      simp only [bg.l0, invF]
      by_cases z : b = 0
      · rw [if_pos z, if_pos z]
        rw [mod_eq x m hm (by omega)]; rfl
      · rw [if_neg z, if_neg z]
        have hb1 : 0 < b := by omega
        obtain ⟨i1, i2, i3, i4⟩ := h.bd
        obtain ⟨i5, i6⟩ := i4 hb1
        have hs := h.step z
        obtain ⟨j1, j2, j3, j4⟩ := hs.bd
        have hy' := j2 hb1
        have hq : 0 ≤ a / b := Int.ediv_nonneg a0 b0
        have hq2 := Int.ediv_le_self b a0
        have hr : a - a / b * b = a % b := by rw [Int.emod_def, Int.mul_comm b]
        obtain ⟨r0, r1⟩ := emb a b hb1
        have hay : (a / b * y).natAbs ≤ m := by
          rw [Int.natAbs_mul]
          have : ((a / b).natAbs * y.natAbs : Nat) = a / b * (y.natAbs : Int) := by
            rw [Int.natCast_mul, Int.natAbs_of_nonneg hq]
          omega
        rw [Int.tdiv_eq_ediv_of_nonneg a0, w64 (n := a / b) (by omega) (by omega), w64 (n := a / b * b) (by omega) (by omega), w64 (n := a - a / b * b) (by omega) (by omega), w64 (n := a / b * y) (by omega) (by omega), w64 (n := x - a / b * y) (by omega) (by omega)]
        exact ih n b (a - a / b * b) y (x - a / b * y) k hs (by omega) hbm (by omega) hy (by omega) (by omega)
  intro k hk
  obtain ⟨h0, h1⟩ := emb n m hm
  unfold bg.f inv
  rw [mod_eq n m hm (by omega)]
  simp only [Option.bind_some]
  exact go (m.toNat + 2) (n % m) (n % m) m 1 0 k (Inv.start h0 (by omega)) (by omega) (by omega) (by omega) (by omega) (by omega) (by omega)
theorem l01InvMod_eq (n m : Int) (hm : 0 < m) (h2 : m ≤ 1099511627776) : ∀ k, m.toNat + 4 ≤ k → bP.f k n m = some (inv n m) := by
  have go : ∀ (j : Nat) (n a b x y : Int) (k : Nat), Inv n m a b x y → b < j → a ≤ m → b ≤ m → x.natAbs ≤ m → y.natAbs ≤ m → j < k → bP.l0 k m a b x y = some (invF j a b x y % m) := by
    intro j
    induction j with
    | zero => intro n a b x y k h hb; have := h.b0; omega
    | succ j ih =>
      intro n a b x y k h hb ham hbm hx hy hk
      obtain ⟨k, rfl⟩ : ∃ i, k = i + 1 := ⟨k - 1, by omega⟩
      have a0 := h.a0; have b0 := h.b0
      simp only [bP.l0, invF]
      by_cases z : b = 0
      · rw [if_pos z, if_pos z]
        obtain ⟨e, h3, h4⟩ := eZ x m hm
        rw [if_neg (by omega), w64 (by omega) (by omega), e]
      · rw [if_neg z, if_neg z]
        have hb1 : 0 < b := by omega
        obtain ⟨i1, i2, i3, i4⟩ := h.bd
        obtain ⟨i5, i6⟩ := i4 hb1
        have hs := h.step z
        obtain ⟨j1, j2, j3, j4⟩ := hs.bd
        have hy' := j2 hb1
        have hq : 0 ≤ a / b := Int.ediv_nonneg a0 b0
        have hq2 := Int.ediv_le_self b a0
        have hr : a - a / b * b = a % b := by rw [Int.emod_def, Int.mul_comm b]
        obtain ⟨r0, r1⟩ := emb a b hb1
        have hay : (a / b * y).natAbs ≤ m := by
          rw [Int.natAbs_mul]
          have : ((a / b).natAbs * y.natAbs : Nat) = a / b * (y.natAbs : Int) := by
            rw [Int.natCast_mul, Int.natAbs_of_nonneg hq]
          omega
        rw [Int.tdiv_eq_ediv_of_nonneg a0, w64 (n := a / b) (by omega) (by omega), w64 (n := a / b * b) (by omega) (by omega), w64 (n := a - a / b * b) (by omega) (by omega), w64 (n := a / b * y) (by omega) (by omega), w64 (n := x - a / b * y) (by omega) (by omega)]
        exact ih n b (a - a / b * b) y (x - a / b * y) k hs (by omega) hbm (by omega) hy (by omega) (by omega)
  intro k hk
  obtain ⟨h0, h1⟩ := emb n m hm
  unfold bP.f inv
  obtain ⟨e, h3, h4⟩ := eZ n m hm
  rw [if_neg (by omega), w64 (by omega) (by omega), e]
  exact go (m.toNat + 2) (n % m) (n % m) m 1 0 k (Inv.start h0 (by omega)) (by omega) (by omega) (by omega) (by omega) (by omega) (by omega)
theorem vl20 {p n : Int} (hp : Pr p) (h : n ≠ 0) (hb : n.natAbs ≤ 1000000) : vl p n ≤ 19 := by
  have := vl_le hp h (k := 20) (by
    have : (2 : Nat) ^ 20 = 1048576 := by decide
    omega)
  omega
theorem pwvl {p n : Int} (hp : Pr p) (h : n ≠ 0) : 0 < pw p (vl p n) ∧ pw p (vl p n) ≤ (n.natAbs : Int) := by
  refine ⟨bW hp _, ?_⟩
  have := Int.le_of_dvd (by omega) (Int.dvd_natAbs.mpr (dX hp h))
  exact this
theorem un_div {p n : Int} (hp : Pr p) (h : n ≠ 0) : n.tdiv (pw p (vl p n)) = un p n := by
  unfold un; rw [ba h, Int.tdiv_eq_ediv_of_dvd (dX hp h)]
theorem un_bd {p n : Int} (hp : Pr p) (h : n ≠ 0) : (un p n).natAbs ≤ n.natAbs := by
  obtain ⟨e, _⟩ := eL hp h
  have h1 := pwvl hp h
  have : n.natAbs = (pw p (vl p n)).natAbs * (un p n).natAbs := by rw [← Int.natAbs_mul, ← e]
  rw [this]
  exact Nat.le_mul_of_pos_left _ (by omega)
theorem unit_eq (p n : Int) (hp : Pr p) (h : n ≠ 0) (hb : n.natAbs ≤ 4611686018427387904) : ∀ k, 70 ≤ k → dK.f k p n = some (un p n) := by
  intro k hk
  have h1 := pwvl hp h
  have h2 := cz hp h (by omega)
  have h3 := vl_le hp h (k := 63) (by
    have : (2 : Nat) ^ 63 = 9223372036854775808 := by decide
    omega)
  have h4 := un_bd hp h
  unfold dK.f
  rw [cU p n hp (by omega) k hk, ba h]
  simp only [Option.bind_some]
  rw [power_eq2 p _ hp (by omega) (by omega) (by omega) k hk]
  simp only [Option.bind_some]
  rw [if_neg (by omega), un_div hp h, w64 (by omega) (by omega)]
def brV (p lv x n d : Int) : Int := if d = 0 ∨ PM.turn p lv x n d < lv then 0 else 1 + (PM.dv p x n d / pw p (lv + 6 + vl p d)) * inv (un p d) p % p
theorem un_mul_pw {p n k : Int} (hp : Pr p) (hn : n ≠ 0) (hk : 0 ≤ k) : un p (pw p k * n) = un p n ∧ (vl p (pw p k * n) : Int) = k + vl p n := by
  have hq := bW hp k
  have hv : (vl p (pw p k * n) : Int) = k + vl p n := by
    rw [dT hp (by omega) hn]; have := PM.vl_pw hp k hk; omega
  refine ⟨?_, hv⟩
  unfold un
  rw [ba (Int.mul_ne_zero (by omega) hn), hv, ba hn, pw_add hk (by omega), Int.mul_ediv_mul_of_pos _ _ hq]
theorem turn_held {p lv x n d : Int} (hd : d ≠ 0) : ¬ PM.turn p lv x n d < lv ↔ (PM.dv p x n d = 0 ∨ lv + 6 + (vl p d : Int) ≤ vl p (PM.dv p x n d)) := by
  unfold PM.turn
  by_cases z : PM.dv p x n d = 0
  · rw [if_pos z]; omega
  · rw [if_neg z]; omega
theorem dv_bd {p x n d : Int} (hp : Pr p) (hx : 0 ≤ x ∧ x ≤ 13841287201) (he : isE n d) : (PM.dv p x n d).natAbs ≤ 15000000000000000 := by
  have hE := isE_bd he
  have h6 := pw_bd6 p 6 hp (by omega)
  have m1 := db (a := n) (b := pw p 6) 1000000 117649 (by omega) (by omega) (by omega) (by omega)
  have m2 := db (a := x) (b := d) 13841287201 1000000 (by omega) (by omega) (by omega) (by omega)
  unfold PM.dv; omega
theorem pwq {p lv d : Int} (hp : Pr p) (hd : d ≠ 0) (hb : d.natAbs ≤ 1000000) (hl : -6 ≤ lv ∧ lv ≤ 6) : 1 ≤ pw p (lv + 6 + vl p d) ∧ pw p (lv + 6 + vl p d) ≤ 13841287201 * 1000000 := by
  have h1 := pwvl hp hd
  have h2 := cj p (lv + 6) hp (by omega)
  rw [pw_add (by omega) (by omega)]
  have h3 := db (a := pw p (lv + 6)) (b := pw p (vl p d)) 13841287201 1000000 (by omega) (by omega) (by omega) (by omega)
  have h4 := Int.mul_pos (show 0 < pw p (lv + 6) by omega) h1.1
  omega
theorem held_dvd {p lv x n d : Int} (hp : Pr p) (hd : d ≠ 0) (hl : -6 ≤ lv) (h : ¬ PM.turn p lv x n d < lv) : pw p (lv + 6 + vl p d) ∣ PM.dv p x n d := by
  rcases (turn_held hd).mp h with z | z
  · rw [z]; exact Int.dvd_zero _
  · by_cases z0 : PM.dv p x n d = 0
    · rw [z0]; exact Int.dvd_zero _
    · exact (dP hp z0 (by omega)).mp z
def enc : Option PM.Ball → Int × Int × Int × Bool
  | none => (0, 0, 0, false)
  | some b => (b.lv, b.top, b.dn, true)
def encC (c : Int) : Option PM.Ball → Int × Int × Int × Int
  | none => (0, 0, 0, c)
  | some b => (b.lv, b.top, b.dn, 0)
theorem isLevel_eq' (n : Int) : cM.f n = some (decide (PM.inLv n)) := by
  unfold cM.f PM.inLv
  congr 1
  by_cases h1 : n ≥ -6 <;> by_cases h2 : n ≤ 6 <;> simp [h1, h2] <;> omega
theorem ofMark_eq {p lv x : Int} (hp : Pr p) : ∀ k, 70 ≤ k → cN.f k p lv x = some (enc (if PM.inLv lv then some (PM.mk p lv (x % pw p (lv + 6))) else none)) := by
  intro k hk
  unfold cN.f
  rw [isLevel_eq']
  simp only [Option.bind_some]
  by_cases hl : PM.inLv lv
  · have hl' := hl
    unfold PM.inLv at hl'
    have hb := cj p (lv + 6) hp (by omega)
    obtain ⟨r0, r1⟩ := emb x (pw p (lv + 6)) (by omega)
    rw [decide_eq_true hl, if_pos rfl, if_pos hl, w64 (n := lv + 6) (by omega) (by omega), dg p _ hp (by omega) k (by omega)]
    simp only [Option.bind_some]
    rw [mod_eq x _ (by omega) (by omega)]
    simp only [Option.bind_some]
    generalize x % pw p (lv + 6) = y at *
    rw [cU p y hp (by omega) k hk]
    simp only [Option.bind_some]
    have hz : 0 ≤ vz p y ∧ vz p y ≤ 1000 := by
      refine ⟨PM.vz_nonneg _ _, ?_⟩
      unfold vz
      by_cases y0 : y = 0
      · rw [if_pos y0]; omega
      · rw [if_neg y0]; have := cz hp y0 (by omega); omega
    simp only [mx_max]
    rw [w64 (n := 6 - vz p y) (by omega) (by omega), w64 (n := 6 - max (6 - vz p y) 0) (by omega) (by omega), dg p _ hp (by omega) k (by omega)]
    simp only [Option.bind_some]
    have hq := pw_bd6 p (6 - max (6 - vz p y) 0) hp (by omega)
    have hd := Int.ediv_le_self (pw p (6 - max (6 - vz p y) 0)) r0
    have hd0 := Int.ediv_nonneg r0 (show 0 ≤ pw p (6 - max (6 - vz p y) 0) by omega)
    rw [if_neg (by omega), Int.tdiv_eq_ediv_of_nonneg r0, w64 (by omega) (by omega)]
    simp only [enc, PM.mk]
  · rw [decide_eq_false hl, if_neg (by simp), if_neg hl]; rfl
theorem vz_bd {p n : Int} (hp : Pr p) (h : n.natAbs ≤ 9223372036854775807) : 0 ≤ vz p n ∧ vz p n ≤ 1000 := by
  refine ⟨PM.vz_nonneg _ _, ?_⟩
  unfold vz
  by_cases y0 : n = 0
  · rw [if_pos y0]; omega
  · rw [if_neg y0]; have := cz hp y0 (by omega); omega
theorem ballAt_eq {p n d lv : Int} (hp : Pr p) (hd : d ≠ 0) (hn : n.natAbs ≤ 4611686018427387904) (hdb : d.natAbs ≤ 4611686018427387904) : ∀ k, 13841287300 ≤ k → bx.f k p n d lv = some (enc (PM.ballAt p n d lv)) := by
  intro k hk
  obtain ⟨k, rfl⟩ : ∃ j, k = j + 1 := ⟨k - 1, by omega⟩
  unfold bx.f PM.ballAt
  rw [isLevel_eq']
  simp only [Option.bind_some]
  by_cases hl : PM.inLv lv
  · have hl' := hl
    unfold PM.inLv at hl'
    have hb := cj p (lv + 6) hp (by omega)
    have b1 := vz_bd hp (n := n) (by omega)
    have b2 := vz_bd hp (n := d) (by omega)
    rw [decide_eq_true hl, if_pos rfl, if_neg (fun z => z hl), cU p n hp (by omega) _ (by omega), cU p d hp (by omega) _ (by omega)]
    simp only [Option.bind_some, bx.j0]
    rw [w64 (n := vz p n - vz p d) (by omega) (by omega)]
    by_cases z : n = 0
    · rw [if_pos z, if_pos trivial, if_pos (Or.inl z)]; rfl
    · rw [if_neg z]
      by_cases c : vz p n - vz p d ≥ lv
      · rw [decide_eq_true c, if_pos rfl, if_pos (Or.inr c)]; rfl
      · rw [decide_eq_false c, if_neg (by simp), if_neg (show ¬ (n = 0 ∨ lv ≤ vz p n - vz p d) from fun y => y.elim z c)]
        by_cases e : vz p n - vz p d < -6
        · rw [if_pos e, if_pos e]; rfl
        · rw [if_neg e, if_neg e, w64 (n := lv + 6) (by omega) (by omega), w64 (n := vz p n - vz p d + 6) (by omega) (by omega), dg p (lv + 6) hp (by omega) k (by omega), unit_eq p n hp z hn k (by omega), unit_eq p d hp hd hdb k (by omega)]
          simp only [Option.bind_some]
          rw [inverse_eq _ _ (by omega) (by omega) k (by omega)]
          simp only [Option.bind_some]
          rw [times_eq _ _ _ (by omega) (by omega) k (by omega)]
          simp only [Option.bind_some]
          rw [dg p (vz p n - vz p d + 6) hp (by omega) k (by omega)]
          simp only [Option.bind_some]
          rw [times_eq _ _ _ (by omega) (by omega) k (by omega)]
          simp only [Option.bind_some]
          rw [ofMark_eq hp k (by omega), if_pos hl, Int.emod_emod]
          rfl
  · rw [decide_eq_false hl, if_neg (by simp), if_pos hl]; rfl
theorem fi {p n d lv : Int} (hp : Pr p) (hd : d ≠ 0) (hn : n.natAbs ≤ 4611686018427387904) (hdb : d.natAbs ≤ 4611686018427387904) : ∀ k, 13841287300 ≤ k → bf.f k p n d lv = some (enc (PM.lOf p n d lv)) := by
  intro k hk
  unfold bf.f PM.lOf
  rw [in_eq]
  simp only [Option.bind_some]
  by_cases hl : PM.inLv lv
  · have hl' := hl
    unfold PM.inLv at hl'
    rw [decide_eq_true hl', if_pos rfl, if_neg (show ¬ ¬ PM.inLv lv from fun z => z hl)]
    by_cases z : n = 0
    · rw [if_pos z, if_pos z]; rfl
    · have v1 := cz hp z (by omega)
      have v2 := cz hp hd (by omega)
      have v3 := vl_le hp z (k := 63) (by
        have : (2 : Nat) ^ 63 = 9223372036854775808 := by decide
        omega)
      have v4 := vl_le hp hd (k := 63) (by
        have : (2 : Nat) ^ 63 = 9223372036854775808 := by decide
        omega)
      rw [if_neg z, if_neg z, fO p n hp z (by omega) k (by omega), fO p d hp hd (by omega) k (by omega), ba z, ba hd]
      simp only [Option.bind_some, mx_max]
      rw [w64 (n := (vl p n : Int) - vl p d) (by omega) (by omega), w64 (n := (vl p d : Int) - vl p n) (by omega) (by omega)]
      by_cases c : lv ≤ (vl p n : Int) - vl p d
      · rw [if_pos c, if_pos c]; rfl
      · rw [if_neg c, if_neg c]
        by_cases e : max ((vl p d : Int) - vl p n) 0 > 6
        · rw [if_pos e, if_pos e]; rfl
        · rw [if_neg e, if_neg (show ¬ 6 < max ((vl p d : Int) - vl p n) 0 from e)]
          have hb := cj p (lv + max ((vl p d : Int) - vl p n) 0) hp (by omega)
          have p1 := pwvl hp z
          have p2 := pwvl hp hd
          have u1 := un_bd hp z
          have u2 := un_bd hp hd
          rw [w64 (n := lv + max ((vl p d : Int) - vl p n) 0) (by omega) (by omega), cI p _ hp (by omega) (by omega) k (by omega), fh p (vl p n) hp (by omega) (by omega) (by omega) k (by omega), fh p (vl p d) hp (by omega) (by omega) (by omega) k (by omega)]
          simp only [Option.bind_some]
          rw [if_neg (by omega), if_neg (by omega), un_div hp z, un_div hp hd, w64 (n := un p n) (by omega) (by omega), w64 (n := un p d) (by omega) (by omega), l01InvMod_eq _ _ (by omega) (by omega) k (by omega)]
          simp only [Option.bind_some]
          rw [fj _ _ _ (by omega) (by omega), cI p (max ((vl p n : Int) - vl p d) 0) hp (by omega) (by omega) k (by omega)]
          simp only [Option.bind_some]
          rw [fj _ _ _ (by omega) (by omega)]
          rfl
  · rw [decide_eq_false (show ¬ (-6 ≤ lv ∧ lv ≤ 6) from hl), if_neg (by simp), if_pos hl]; rfl
theorem dc {p n d lv : Int} (hp : Pr p) (hd : d ≠ 0) : PM.lOf p n d lv = PM.ballAt p n d lv := (PM.ballAt_eq_lOf hp hd).symm
theorem up_eq {p lv top dn : Int} (hp : Pr p) (h : PM.Ok p ⟨lv, top, dn⟩) : ∀ k, 70 ≤ k → bk.f k p lv top dn = some (enc (PM.about p (lv - 1) (PM.mark p ⟨lv, top, dn⟩))) := by
  intro k hk
  have hb := okb h
  unfold bk.f
  rw [fg hp h k (by omega)]
  simp only [Option.bind_some]
  rw [w64 (n := lv - 1) (by omega) (by omega), ofMark_eq hp k hk]
  rfl
theorem down_eq {p lv top dn a : Int} (hp : Pr p) (h : PM.Ok p ⟨lv, top, dn⟩) (ha : 0 ≤ a ∧ a ≤ 7) : ∀ k, 70 ≤ k → bw.f k p lv top dn a = some (enc (PM.about p (lv + 1) (PM.mark p ⟨lv, top, dn⟩ + a * pw p (lv + 6)))) := by
  intro k hk
  have hb := okb h
  have hm := mark_bd12 hp h
  have hq := cj p (lv + 6) hp (by omega)
  have m1 := db (a := a) (b := pw p (lv + 6)) 7 13841287201 (by omega) (by omega) (by omega) (by omega)
  unfold bw.f
  rw [fg hp h k (by omega), w64 (n := lv + 6) (by omega) (by omega), dg p _ hp (by omega) k (by omega)]
  simp only [Option.bind_some]
  rw [w64 (n := lv + 1) (by omega) (by omega), w64 (n := a * pw p (lv + 6)) (by omega) (by omega), w64 (by omega) (by omega), ofMark_eq hp k hk]
  rfl
theorem specUp_eq {p lv top dn : Int} (hp : Pr p) (h : PM.Ok p ⟨lv, top, dn⟩) : ∀ k, 13841287300 ≤ k → bO.f k p lv top dn = some (enc (PM.about p (lv - 1) (PM.mark p ⟨lv, top, dn⟩))) := by
  intro k hk
  have hb := okb h
  have ht := ok_top hp h
  have h6 := pw_bd6 p dn hp (by omega)
  unfold bO.f
  rw [cI p dn hp (by omega) (by omega) k (by omega)]
  simp only [Option.bind_some]
  rw [w64 (n := lv - 1) (by omega) (by omega), fi hp (by omega) (by omega) (by omega) k hk, dc hp (by omega), show PM.ballAt p top (pw p dn) (lv - 1) = _ from PM.parent_is hp h (lv - 1)]
  rfl
theorem about_out {p l x : Int} (h : ¬ PM.inLv l) : PM.about p l x = none := by unfold PM.about; rw [if_neg h]
theorem specDown_eq {p lv top dn a : Int} (hp : Pr p) (h : PM.Ok p ⟨lv, top, dn⟩) (ha : 0 ≤ a ∧ a ≤ 7) : ∀ k, 13841287300 ≤ k → cp.f k p lv top dn a = some (enc (PM.about p (lv + 1) (PM.mark p ⟨lv, top, dn⟩ + a * pw p (lv + 6)))) := by
  intro k hk
  have hb := okb h
  have ht := ok_top hp h
  have h6 := pw_bd6 p dn hp (by omega)
  unfold cp.f
  by_cases c : lv = 6
  · rw [if_pos c, about_out (by unfold PM.inLv; omega)]; rfl
  · rw [if_neg c, cI p dn hp (by omega) (by omega) k (by omega)]
    simp only [Option.bind_some]
    by_cases g : lv ≥ 0
    · have hl := pw_bd6 p lv hp (by omega)
      have m1 := db (a := a) (b := pw p dn) 7 117649 (by omega) (by omega) (by omega) (by omega)
      have m2 := db (a := a * pw p dn) (b := pw p lv) 823543 117649 (by omega) (by omega) (by omega) (by omega)
      rw [if_pos g, cI p lv hp (by omega) (by omega) k (by omega)]
      simp only [Option.bind_some]
      rw [w64 (n := a * pw p dn) (by omega) (by omega), w64 (n := a * pw p dn * pw p lv) (by omega) (by omega), w64 (n := top + a * pw p dn * pw p lv) (by omega) (by omega), w64 (n := lv + 1) (by omega) (by omega)]
      rw [fi hp (by omega) (by omega) (by omega) k hk, dc hp (by omega), show PM.ballAt p (top + a * pw p dn * pw p lv) (pw p dn) (lv + 1) = _ from PM.child_hi hp h a (lv + 1) g]
      rfl
    · have hl := pw_bd6 p (-lv) hp (by omega)
      rw [if_neg g, w64 (n := -lv) (by omega) (by omega), cI p (-lv) hp (by omega) (by omega) k (by omega)]
      simp only [Option.bind_some]
      rw [if_neg (by omega), if_neg (by omega)]
      obtain ⟨e, f, d, hd, he, hf, e0, e1, f0, f1⟩ : ∃ e f d : Int, d = mx (pw p dn) (pw p (-lv)) ∧ d = pw p dn * e ∧ d = pw p (-lv) * f ∧ 0 ≤ e ∧ e ≤ 117649 ∧ 0 ≤ f ∧ f ≤ 117649 := by
        rw [mx_max]
        rcases Int.le_total dn (-lv) with y | y
        · have := fd hp y
          obtain ⟨z, hz⟩ := ei (p := p) y
          have z0 : 0 ≤ z := by
            rcases Int.lt_or_le z 0 with w | w
            · have := Int.mul_neg_of_pos_of_neg (show 0 < pw p dn by omega) w; omega
            · exact w
          have z1 : z ≤ pw p dn * z := by
            have := Int.mul_le_mul_of_nonneg_right (show 1 ≤ pw p dn by omega) z0; omega
          exact ⟨z, 1, pw p (-lv), by omega, hz, by omega, z0, by omega, by omega, by omega⟩
        · have := fd hp y
          obtain ⟨z, hz⟩ := ei (p := p) y
          have z0 : 0 ≤ z := by
            rcases Int.lt_or_le z 0 with w | w
            · have := Int.mul_neg_of_pos_of_neg (show 0 < pw p (-lv) by omega) w; omega
            · exact w
          have z1 : z ≤ pw p (-lv) * z := by
            have := Int.mul_le_mul_of_nonneg_right (show 1 ≤ pw p (-lv) by omega) z0; omega
          exact ⟨1, z, pw p dn, by omega, by omega, hz, by omega, by omega, z0, by omega⟩
      rw [← hd]
      have hdp : 0 < d ∧ d ≤ 117649 := by rw [hd, mx_max]; omega
      have q1 : d.tdiv (pw p dn) = e := by rw [he]; exact Int.mul_tdiv_cancel_left _ (by omega)
      have q2 : d.tdiv (pw p (-lv)) = f := by rw [hf]; exact Int.mul_tdiv_cancel_left _ (by omega)
      have m1 := db (a := top) (b := e) 13841287201 117649 (by omega) (by omega) (by omega) (by omega)
      have m2 := db (a := a) (b := f) 7 117649 (by omega) (by omega) (by omega) (by omega)
      rw [q1, q2, w64 (n := e) (by omega) (by omega), w64 (n := f) (by omega) (by omega), w64 (n := top * e) (by omega) (by omega), w64 (n := a * f) (by omega) (by omega), w64 (n := top * e + a * f) (by omega) (by omega), w64 (n := lv + 1) (by omega) (by omega)]
      rw [fi hp (by omega) (by omega) (by omega) k hk, dc hp (by omega), show PM.ballAt p (top * e + a * f) d (lv + 1) = _ from PM.child_lo hp h a (lv + 1) d e f (show -6 ≤ lv by omega) (show lv < 0 by omega) he hf (by omega)]
      rfl
theorem about_ok {p l x : Int} {b : PM.Ball} (hp : Pr p) (h : PM.about p l x = some b) : PM.Ok p b ∧ b.lv = l ∧ PM.inLv l ∧ PM.mark p b = x % pw p (l + 6) := by
  unfold PM.about at h
  by_cases hl : PM.inLv l
  · rw [if_pos hl] at h
    obtain rfl := Option.some.inj h
    have hl' := hl
    unfold PM.inLv at hl'
    have hq := bW hp (l + 6)
    obtain ⟨o1, o2⟩ := PM.ok_mk hp hl'.1 hl'.2 (Int.emod_nonneg x (b := pw p (l + 6)) (by omega)) (Int.emod_lt_of_pos x hq)
    exact ⟨o1, rfl, hl, o2⟩
  · rw [if_neg hl] at h; cases h
theorem brV_bd {p lv x n d : Int} (hp : Pr p) : 0 ≤ brV p lv x n d ∧ brV p lv x n d ≤ p := by
  have hpp := hp.pos
  unfold brV
  by_cases c : d = 0 ∨ PM.turn p lv x n d < lv
  · rw [if_pos c]; omega
  · rw [if_neg c]
    obtain ⟨a, b⟩ := emb (PM.dv p x n d / pw p (lv + 6 + vl p d) * inv (un p d) p) p (by omega)
    omega
def nb (p : Int) (b : PM.Ball) (k : Int) : Option PM.Ball := if k = 0 then PM.about p (b.lv - 1) (PM.mark p b) else PM.about p (b.lv + 1) (PM.mark p b + (k - 1) * pw p (b.lv + 6))
theorem nb_ok {p k : Int} {b c : PM.Ball} (hp : Pr p) (h : nb p b k = some c) : PM.Ok p c := by
  unfold nb at h
  by_cases z : k = 0
  · rw [if_pos z] at h; exact (about_ok hp h).1
  · rw [if_neg z] at h; exact (about_ok hp h).1
theorem neighbour_eq {p lv top dn i : Int} (hp : Pr p) (h : PM.Ok p ⟨lv, top, dn⟩) (hi : 0 ≤ i ∧ i ≤ 8) : ∀ k, 70 ≤ k → ce.f k p lv top dn i = some (enc (nb p ⟨lv, top, dn⟩ i)) := by
  intro k hk
  unfold ce.f nb
  by_cases z : i = 0
  · rw [if_pos z, if_pos z, up_eq hp h k hk]; rfl
  · rw [if_neg z, if_neg z, w64 (n := i - 1) (by omega) (by omega), down_eq hp h (by omega) k hk]; rfl
theorem dets {a b c d : Int} (ha : a.natAbs ≤ 1000) (hb : b.natAbs ≤ 1000) (hc : c.natAbs ≤ 1000) (hd : d.natAbs ≤ 1000) : wrap64 (wrap64 (a * d) - wrap64 (b * c)) = a * d - b * c ∧ (a * d - b * c).natAbs ≤ 2000000 := by
  have h1 : (a * d).natAbs ≤ 1000000 := by rw [Int.natAbs_mul]; have := Nat.mul_le_mul ha hd; omega
  have h2 : (b * c).natAbs ≤ 1000000 := by rw [Int.natAbs_mul]; have := Nat.mul_le_mul hb hc; omega
  rw [w64 (n := a * d) (by omega) (by omega), w64 (n := b * c) (by omega) (by omega), w64 (by omega) (by omega)]
  exact ⟨rfl, by omega⟩
theorem l04Is_eq (a b c d : Int) : dW.f a b c d = some (decide (PM.isM a b c d)) := by
  unfold dW.f
  congr 1
  rw [Bool.eq_iff_iff]
  simp only [decide_eq_true_eq]
  unfold PM.isM
  constructor
  · rintro ⟨h1, h2, h3, h4, h5⟩
    rw [(dets (a := a) (b := b) (c := c) (d := d) (by omega) (by omega) (by omega) (by omega)).1] at h5
    exact ⟨⟨h1, h2, h3, h4⟩, h5⟩
  · rintro ⟨⟨h1, h2, h3, h4⟩, h5⟩
    refine ⟨h1, h2, h3, h4, ?_⟩
    rw [(dets (a := a) (b := b) (c := c) (d := d) (by omega) (by omega) (by omega) (by omega)).1]
    exact h5
theorem IsMatrix_eq (a b c d : Int) : ∃ K, ∀ k, K ≤ k → ct.f k a b c d = some (decide (PM.isM a b c d)) := by
  obtain ⟨K, hw⟩ := within_eq 1000 (by omega) (by omega) [a, b, c, d] (by simp)
  have ew : allB 1000 [a, b, c, d] = decide ((-1000 ≤ a ∧ a ≤ 1000) ∧ (-1000 ≤ b ∧ b ≤ 1000) ∧ (-1000 ≤ c ∧ c ≤ 1000) ∧ (-1000 ≤ d ∧ d ≤ 1000)) := by simp [allB]
  refine ⟨K, fun k hk => ?_⟩
  unfold ct.f
  rw [hw k hk, ew]
  simp only [Option.bind_some]
  by_cases h : (-1000 ≤ a ∧ a ≤ 1000) ∧ (-1000 ≤ b ∧ b ≤ 1000) ∧ (-1000 ≤ c ∧ c ≤ 1000) ∧ (-1000 ≤ d ∧ d ≤ 1000)
  · rw [decide_eq_true h, if_pos rfl]
    unfold bj.f
    simp only [Option.bind_some]
    rw [(dets (a := a) (b := b) (c := c) (d := d) (by omega) (by omega) (by omega) (by omega)).1]
    congr 1
    rw [Bool.eq_iff_iff]
    simp only [bne_iff_ne, decide_eq_true_eq]
    unfold PM.isM
    exact ⟨fun z => ⟨h, z⟩, fun z => z.2⟩
  · rw [decide_eq_false h, if_neg (by simp), decide_eq_false]
    exact fun z => h z.1
def mOk (x : S59) : Bool := decide (PM.isM x.f0.f0 x.f0.f1 x.f1.f0 x.f1.f1)
theorem rdM (l : List S59) (i : Nat) (h : i < l.length) : ai l (i : Int) = l[i]'h := by
  unfold ai; simp [List.getD_eq_getElem?_getD, h]
theorem fB (l : List S59) (hl : l.length ≤ 10000000) : ∃ K, ∀ k, K ≤ k → aw.f k l = some (l.all mOk) := by
  have go : ∀ (d i : Nat), i + d = l.length → ∃ K, ∀ k, K ≤ k → aw.l0 k l l.length i = some ((l.drop i).all mOk) := by
    intro d
    induction d with
    | zero =>
      intro i hi
      refine ⟨1, fun k hk => ?_⟩
      obtain ⟨k, rfl⟩ : ∃ m, k = m + 1 := ⟨k - 1, by omega⟩
      simp only [aw.l0]
      rw [if_neg (by omega), List.drop_eq_nil_of_le (by omega)]; rfl
    | succ d ih =>
      intro i hi
      obtain ⟨K1, h1⟩ := ih (i + 1) (by omega)
      obtain ⟨K2, h2⟩ := IsMatrix_eq (l[i]'(by omega)).f0.f0 (l[i]'(by omega)).f0.f1 (l[i]'(by omega)).f1.f0 (l[i]'(by omega)).f1.f1
      refine ⟨K1 + K2 + 1, fun k hk => ?_⟩
      obtain ⟨k, rfl⟩ : ∃ m, k = m + 1 := ⟨k - 1, by omega⟩
      simp only [aw.l0]
      rw [if_pos (by omega), if_pos (by omega), if_pos (by omega), rdM l i (by omega), h2 k (by omega), all_drop mOk l i (by omega), w64 (by omega) (by omega), show ((i : Int) + 1) = ((i + 1 : Nat) : Int) from by omega, h1 k (by omega)]
      simp only [Option.bind_some]
      show _ = some (decide (PM.isM _ _ _ _) && _)
      by_cases h : PM.isM (l[i]'(by omega)).f0.f0 (l[i]'(by omega)).f0.f1 (l[i]'(by omega)).f1.f0 (l[i]'(by omega)).f1.f1
      · rw [decide_eq_true h]; simp
      · rw [decide_eq_false h]; simp
  obtain ⟨K, h⟩ := go l.length 0 (by omega)
  exact ⟨K, fun k hk => by have := h k hk; simpa [aw.f] using this⟩
theorem isM_mem {l : List S59} (h : l.all mOk = true) {i : Nat} (hi : i < l.length) : PM.isM (l[i]'hi).f0.f0 (l[i]'hi).f0.f1 (l[i]'hi).f1.f0 (l[i]'hi).f1.f1 := by
  rw [List.all_eq_true] at h
  have := h (l[i]'hi) (List.getElem_mem _)
  simpa [mOk] using this
theorem areM2 (a b c d e f g h : Int) : ∃ K, ∀ k, K ≤ k → aw.f k [⟨⟨a, b⟩, ⟨c, d⟩⟩, ⟨⟨e, f⟩, ⟨g, h⟩⟩] = some (decide (PM.isM a b c d ∧ PM.isM e f g h)) := by
  obtain ⟨K, hK⟩ := fB [⟨⟨a, b⟩, ⟨c, d⟩⟩, ⟨⟨e, f⟩, ⟨g, h⟩⟩] (by simp)
  refine ⟨K, fun k hk => ?_⟩
  rw [hK k hk]
  simp [mOk, Bool.decide_and]
theorem eV {c T d S : Int} (hc : c.natAbs ≤ 1000) (hd : d.natAbs ≤ 1000) (hT : T.natAbs ≤ 13841287201) (hS : S.natAbs ≤ 13841287201) :
    wrap64 (wrap64 (c * T) + wrap64 (d * S)) = c * T + d * S ∧ wrap64 (c * T) = c * T ∧ (c * T).natAbs ≤ 13841287201000 ∧ (c * T + d * S).natAbs ≤ 27682574402000 := by
  have h1 : (c * T).natAbs ≤ 1000 * 13841287201 := by rw [Int.natAbs_mul]; exact Nat.mul_le_mul hc hT
  have h2 : (d * S).natAbs ≤ 1000 * 13841287201 := by rw [Int.natAbs_mul]; exact Nat.mul_le_mul hd hS
  rw [w64 (n := c * T) (by omega) (by omega), w64 (n := d * S) (by omega) (by omega), w64 (by omega) (by omega)]
  exact ⟨rfl, rfl, by omega, by omega⟩
theorem mvF_bd {p a b c d P T S : Int} (ha : a.natAbs ≤ 1000) (hb : b.natAbs ≤ 1000) (hc : c.natAbs ≤ 1000) (hd : d.natAbs ≤ 1000) (hP : P.natAbs ≤ 13841287201) (hT : T.natAbs ≤ 13841287201) (hS : S.natAbs ≤ 13841287201) :
    (PM.mvF p a b c d P T S).1.natAbs ≤ 27682574402000 ∧ (PM.mvF p a b c d P T S).2.natAbs ≤ 27682574402000 := by
  have h1 := eV ha hb hT hS
  have h2 := eV hc hd hT hS
  have h3 := eV (d := 0) (S := 0) ha (by simp) hP (by simp)
  have h4 := eV (d := 0) (S := 0) hc (by simp) hP (by simp)
  unfold PM.mvF
  split
  · exact ⟨by simp only; omega, by simp only; omega⟩
  · exact ⟨by simp only; omega, by simp only; omega⟩
set_option maxHeartbeats 1600000 in
theorem moveBall_eq {p a b c d lv top dn : Int} (hp : Pr p) (hm : PM.isM a b c d) (ho : PM.Ok p ⟨lv, top, dn⟩) : ∀ k, 13841287400 ≤ k → aV.f k p a b c d lv top dn = some (enc (PM.moveB p a b c d ⟨lv, top, dn⟩)) := by
  intro k hk
  obtain ⟨k, rfl⟩ : ∃ j, k = j + 1 := ⟨k - 1, by omega⟩
  have hb := PM.isM_bd hm
  obtain ⟨m0, m1⟩ := PM.mark_bd hp ho
  have hlv := ho.1
  have hlv2 := ho.2.1
  simp only at hlv hlv2 m1
  have b1 := cj p (lv + 6) hp (by omega)
  have b2 := cj p 6 hp (by omega)
  unfold aV.f
  rw [fg hp ho _ (by omega), dg p 6 hp (by omega) _ (by omega), w64 (n := lv + 6) (by omega) (by omega), dg p (lv + 6) hp (by omega) _ (by omega)]
  simp only [Option.bind_some]
  unfold PM.moveB
  simp only
  obtain ⟨P, hP⟩ : ∃ P, P = pw p (lv + 6) := ⟨_, rfl⟩
  obtain ⟨S, hS⟩ : ∃ S, S = pw p 6 := ⟨_, rfl⟩
  obtain ⟨T, hT⟩ : ∃ T, T = PM.mark p ⟨lv, top, dn⟩ := ⟨_, rfl⟩
  rw [← hP, ← hS, ← hT]
  rw [← hP] at b1 m1
  rw [← hS] at b2
  rw [← hT] at m0 m1
  have hbd := mvF_bd (p := p) (P := P) (T := T) (S := S) hb.1 hb.2.1 hb.2.2.1 hb.2.2.2 (by omega) (by omega) (by omega)
  have hne := PM.mvF_ne (p := p) (P := P) (T := T) (S := S) hm.2 (by omega) (by omega)
  obtain ⟨l1, _, _, l1b⟩ := eV (T := T) (S := S) hb.1 hb.2.1 (by omega) (by omega)
  obtain ⟨l2, _, _, l2b⟩ := eV (T := T) (S := S) hb.2.2.1 hb.2.2.2 (by omega) (by omega)
  obtain ⟨_, l3, l3b, _⟩ := eV (T := P) (S := 0) (d := 0) hb.1 (by simp) (by omega) (by simp)
  obtain ⟨_, l4, l4b, _⟩ := eV (T := P) (S := 0) (d := 0) hb.2.2.1 (by simp) (by omega) (by simp)
  rw [l1, l2, l3, l4, cU p _ hp (by omega) _ (by omega), cU p _ hp (by omega) _ (by omega)]
  simp only [Option.bind_some]
  have hsel : (if vz p (c * T + d * S) > vz p (c * P) then aV.j0 (k + 1) p a b c d lv top dn (a * P) (c * P) else aV.j0 (k + 1) p a b c d lv top dn (a * T + b * S) (c * T + d * S)) = aV.j0 (k + 1) p a b c d lv top dn (PM.mvF p a b c d P T S).1 (PM.mvF p a b c d P T S).2 := by
    unfold PM.mvF at hne ⊢
    by_cases z : c * T + d * S = 0
    · rw [if_pos (Or.inl z)] at hne ⊢
      have hne' : c * P ≠ 0 := hne
      have hu := cz hp hne' (by omega)
      rw [z, show vz p 0 = 1000 by simp [vz], ba hne', if_pos (by omega)]
    · have hv := cz hp z (by omega)
      rw [ba z]
      by_cases y : c * P = 0
      · rw [y, show vz p 0 = 1000 by simp [vz], if_neg (by omega), if_neg (show ¬ (c * T + d * S = 0 ∨ ((0 : Int) ≠ 0 ∧ vl p 0 < vl p (c * T + d * S))) from fun h => h.elim z (fun h => h.1 rfl))]
      · rw [ba y]
        by_cases q : vl p (c * P) < vl p (c * T + d * S)
        · rw [if_pos (by omega), if_pos (Or.inr ⟨y, q⟩)]
        · rw [if_neg (by omega), if_neg (show ¬ (c * T + d * S = 0 ∨ (c * P ≠ 0 ∧ vl p (c * P) < vl p (c * T + d * S))) from fun h => h.elim z (fun h => q h.2))]
  rw [hsel]
  generalize PM.mvF p a b c d P T S = F at *
  obtain ⟨e1, e2⟩ := dets hb.1 hb.2.1 hb.2.2.1 hb.2.2.2
  have v1 := cz hp hm.2 (by omega)
  have v2 := cz hp hne (by omega)
  simp only [aV.j0]
  unfold bj.f
  simp only [Option.bind_some]
  rw [e1, cU p _ hp (by omega) _ (by omega), cU p _ hp (by omega) _ (by omega), ba hm.2, ba hne]
  simp only [Option.bind_some]
  rw [w64 (n := (vl p (a * d - b * c) : Int) + lv) (by omega) (by omega), w64 (n := (vl p (a * d - b * c) : Int) + lv + 12) (by omega) (by omega), w64 (n := 2 * (vl p F.2 : Int)) (by omega) (by omega), w64 (n := (vl p (a * d - b * c) : Int) + lv + 12 - 2 * (vl p F.2 : Int)) (by omega) (by omega), ballAt_eq hp hne (by omega) (by omega) k (by omega)]
  rfl
set_option maxHeartbeats 1600000 in
theorem fR {p a b c d lv top dn : Int} (hp : Pr p) (hm : PM.isM a b c d) (ho : PM.Ok p ⟨lv, top, dn⟩) : ∀ k, 13841287400 ≤ k → aT.f k p a b c d lv top dn = some (enc (PM.moveB p a b c d ⟨lv, top, dn⟩)) := by
  intro k hk
  obtain ⟨k, rfl⟩ : ∃ j, k = j + 1 + 1 := ⟨k - 2, by omega⟩
  have hb := PM.isM_bd hm
  obtain ⟨t, ht⟩ : ∃ t, t = max dn (-lv) := ⟨_, rfl⟩
  rw [PM.moveB_ref (t := t) hp hm.2 ho ht]
  obtain ⟨o1, o2, o3, o4, o5⟩ := ho
  simp only at o1 o2 o3 o4 o5 ⊢
  have b1 := cj p (lv + t) hp (by omega)
  have b2 := cj p t hp (by omega)
  have b3 := cj p (t - dn) hp (by omega)
  have hTb : 0 ≤ top * pw p (t - dn) ∧ top * pw p (t - dn) ≤ 13841287201 := by
    rcases o5 with ⟨_, z, _⟩ | ⟨g, h0, h1, _⟩
    · rw [z]; simp
    · refine ⟨Int.mul_nonneg h0 (by omega), ?_⟩
      have h2 : top * pw p (t - dn) ≤ pw p (lv + dn) * pw p (t - dn) := Int.mul_le_mul_of_nonneg_right (by omega) (by omega)
      rw [← PM.pw_add (by omega) (by omega), show lv + dn + (t - dn) = lv + t by omega] at h2
      omega
  unfold aT.f
  simp only [mx_max]
  rw [w64 (n := -lv) (by omega) (by omega), ← ht, w64 (n := lv + t) (by omega) (by omega), w64 (n := t - dn) (by omega) (by omega), cI p (lv + t) hp (by omega) (by omega) _ (by omega), cI p t hp (by omega) (by omega) _ (by omega), cI p (t - dn) hp (by omega) (by omega) _ (by omega)]
  simp only [Option.bind_some]
  rw [w64 (n := top * pw p (t - dn)) (by omega) (by omega)]
  obtain ⟨P, hP⟩ : ∃ P, P = pw p (lv + t) := ⟨_, rfl⟩
  obtain ⟨S, hS⟩ : ∃ S, S = pw p t := ⟨_, rfl⟩
  obtain ⟨T, hT⟩ : ∃ T, T = top * pw p (t - dn) := ⟨_, rfl⟩
  rw [← hP, ← hS, ← hT]
  rw [← hP] at b1
  rw [← hS] at b2
  rw [← hT] at hTb
  have hbd := mvF_bd (p := p) (P := P) (T := T) (S := S) hb.1 hb.2.1 hb.2.2.1 hb.2.2.2 (by omega) (by omega) (by omega)
  have hne := PM.mvF_ne (p := p) (P := P) (T := T) (S := S) hm.2 (by omega) (by omega)
  obtain ⟨l1, _, _, l1b⟩ := eV (T := T) (S := S) hb.1 hb.2.1 (by omega) (by omega)
  obtain ⟨l2, _, _, l2b⟩ := eV (T := T) (S := S) hb.2.2.1 hb.2.2.2 (by omega) (by omega)
  obtain ⟨_, l3, l3b, _⟩ := eV (T := P) (S := 0) (d := 0) hb.1 (by simp) (by omega) (by simp)
  obtain ⟨_, l4, l4b, _⟩ := eV (T := P) (S := 0) (d := 0) hb.2.2.1 (by simp) (by omega) (by simp)
  simp only [l1, l2, l3, l4]
  have htb : 0 ≤ t ∧ t ≤ 6 := by omega
  clear o5 ht hP hS hT
  have hend : aT.j1 (k + 1) p t a b c d lv top dn (PM.mvF p a b c d P T S).1 (PM.mvF p a b c d P T S).2 = some (enc (PM.ballAt p (PM.mvF p a b c d P T S).1 (PM.mvF p a b c d P T S).2 ((vl p (a * d - b * c) : Int) + lv + 2 * t - 2 * vl p (PM.mvF p a b c d P T S).2))) := by
    generalize PM.mvF p a b c d P T S = F at *
    obtain ⟨e1, e2⟩ := dets hb.1 hb.2.1 hb.2.2.1 hb.2.2.2
    have v1 := cz hp hm.2 (by omega)
    have v2 := cz hp hne (by omega)
    simp only [aT.j1]
    unfold dR.f
    simp only [Option.bind_some]
    rw [e1, fO p _ hp hm.2 (by omega) _ (by omega), fO p _ hp hne (by omega) _ (by omega)]
    simp only [Option.bind_some]
    rw [w64 (n := (vl p (a * d - b * c) : Int) + lv) (by omega) (by omega), w64 (n := 2 * t) (by omega) (by omega), w64 (n := (vl p (a * d - b * c) : Int) + lv + 2 * t) (by omega) (by omega), w64 (n := 2 * (vl p F.2 : Int)) (by omega) (by omega), w64 (n := (vl p (a * d - b * c) : Int) + lv + 2 * t - 2 * (vl p F.2 : Int)) (by omega) (by omega), fi hp hne (by omega) (by omega) k (by omega), dc hp hne]
    rfl
  rw [← hend]
  unfold PM.mvF at hne ⊢
  by_cases z : c * T + d * S = 0
  · rw [if_pos z, if_pos (Or.inl z)]
    simp only [aT.j0]
    rw [if_pos trivial]
  · rw [if_neg z]
    by_cases y : c * P = 0
    · rw [if_pos y, if_neg (show ¬ (c * T + d * S = 0 ∨ (c * P ≠ 0 ∧ vl p (c * P) < vl p (c * T + d * S))) from fun h => h.elim z (fun h => h.1 y))]
      simp only [aT.j0]
      rw [if_neg (by simp)]
    · rw [if_neg y, fO p _ hp z (by omega) _ (by omega), fO p _ hp y (by omega) _ (by omega), Option.bind_some, Option.bind_some]
      simp only [aT.j0]
      by_cases q : vl p (c * P) < vl p (c * T + d * S)
      · rw [decide_eq_true (by omega), if_pos rfl, if_pos (Or.inr ⟨y, q⟩)]
      · rw [decide_eq_false (by omega), if_neg (by simp), if_neg (show ¬ (c * T + d * S = 0 ∨ (c * P ≠ 0 ∧ vl p (c * P) < vl p (c * T + d * S))) from fun h => h.elim z (fun h => q h.2))]
theorem joinLevel_eq {p l1 t1 d1 l2 t2 d2 : Int} (hp : Pr p) (hb : PM.Ok p ⟨l1, t1, d1⟩) (hc : PM.Ok p ⟨l2, t2, d2⟩) : ∀ k, 100 ≤ k → bQ.f k p l1 t1 d1 l2 t2 d2 = some (PM.jl p ⟨l1, t1, d1⟩ ⟨l2, t2, d2⟩) := by
  intro k hk
  obtain ⟨m0, m1⟩ := PM.mark_bd hp hb
  obtain ⟨m2, m3⟩ := PM.mark_bd hp hc
  have b1 := cj p (l1 + 6) hp (by have := hb.2.1; simp only at this; omega)
  have b2 := cj p (l2 + 6) hp (by have := hc.2.1; simp only at this; omega)
  simp only at m1 m3
  unfold bQ.f
  rw [fg hp hb k (by omega), fg hp hc k (by omega)]
  simp only [Option.bind_some]
  rw [w64 (n := PM.mark p ⟨l1, t1, d1⟩ - PM.mark p ⟨l2, t2, d2⟩) (by omega) (by omega), cU p _ hp (by omega) k (by omega)]
  simp only [Option.bind_some, mn_min]
  have hz := PM.vz_nonneg p (PM.mark p ⟨l1, t1, d1⟩ - PM.mark p ⟨l2, t2, d2⟩)
  have hz2 : vz p (PM.mark p ⟨l1, t1, d1⟩ - PM.mark p ⟨l2, t2, d2⟩) ≤ 1000 := by
    unfold vz
    by_cases z : PM.mark p ⟨l1, t1, d1⟩ - PM.mark p ⟨l2, t2, d2⟩ = 0
    · rw [if_pos z]; omega
    · rw [if_neg z]; have := cz hp z (by omega); omega
  rw [w64 (by omega) (by omega)]
  rfl
theorem fm {p : Int} {b c : PM.Ball} (hb : PM.Ok p b) (hc : PM.Ok p c) : wrap64 (wrap64 (b.lv + c.lv) - wrap64 (2 * PM.jl p b c)) = PM.dist p b c := by
  obtain ⟨j1, j2, j3⟩ := PM.jl_bd p hb hc
  have h1 := hb.2.1
  have h2 := hc.2.1
  have h3 := hb.1
  have h4 := hc.1
  rw [w64 (n := b.lv + c.lv) (by omega) (by omega), w64 (n := 2 * PM.jl p b c) (by omega) (by omega), w64 (by omega) (by omega)]
  rfl
theorem distance_eq {p l1 t1 d1 l2 t2 d2 : Int} (hp : Pr p) (hb : PM.Ok p ⟨l1, t1, d1⟩) (hc : PM.Ok p ⟨l2, t2, d2⟩) : ∀ k, 100 ≤ k → bG.f k p l1 t1 d1 l2 t2 d2 = some (PM.dist p ⟨l1, t1, d1⟩ ⟨l2, t2, d2⟩) := by
  intro k hk
  unfold bG.f
  rw [joinLevel_eq hp hb hc k hk]
  simp only [Option.bind_some]
  exact congrArg some (fm hb hc)
set_option maxHeartbeats 1600000 in
theorem l02Join_eq {p l1 t1 d1 l2 t2 d2 : Int} (hp : Pr p) (hb : PM.Ok p ⟨l1, t1, d1⟩) (hc : PM.Ok p ⟨l2, t2, d2⟩) : ∀ k, 100 ≤ k → dB.f k p l1 t1 d1 l2 t2 d2 = some (PM.jl p ⟨l1, t1, d1⟩ ⟨l2, t2, d2⟩) := by
  intro k hk
  rw [PM.jl_ref hp hb hc]
  have tb : ∀ {l t d m : Int}, PM.Ok p ⟨l, t, d⟩ → d ≤ m → m ≤ 6 → 0 ≤ t * pw p (m - d) ∧ t * pw p (m - d) ≤ 13841287201 := by
    intro l t d m ho h1 h2
    obtain ⟨o1, o2, o3, o4, o5⟩ := ho
    simp only at o1 o2 o3 o4 o5
    have hq := cj p (m - d) hp (by omega)
    rcases o5 with ⟨_, z, _⟩ | ⟨g, h0, h1', _⟩
    · rw [z]; simp
    · refine ⟨Int.mul_nonneg h0 (by omega), ?_⟩
      have h2 : t * pw p (m - d) ≤ pw p (l + d) * pw p (m - d) := Int.mul_le_mul_of_nonneg_right (by omega) (by omega)
      rw [← PM.pw_add (by omega) (by omega), show l + d + (m - d) = l + m by omega] at h2
      have := cj p (l + m) hp (by omega)
      omega
  have b3 := hb.2.2.1
  have b4 := hb.2.2.2.1
  have c3 := hc.2.2.1
  have c4 := hc.2.2.2.1
  simp only at b3 b4 c3 c4 ⊢
  have h1 := tb hb (m := max d1 d2) (by omega) (by omega)
  have h2 := tb hc (m := max d1 d2) (by omega) (by omega)
  clear tb
  unfold dB.f cD.f
  simp only [mx_max, mn_min]
  obtain ⟨M, hM⟩ : ∃ M, M = max d1 d2 := ⟨_, rfl⟩
  rw [← hM] at h1 h2 ⊢
  rw [w64 (n := M - d1) (by omega) (by omega), w64 (n := M - d2) (by omega) (by omega), cI p (M - d1) hp (by omega) (by omega) k (by omega), cI p (M - d2) hp (by omega) (by omega) k (by omega)]
  simp only [Option.bind_some]
  rw [w64 (n := t1 * pw p (M - d1)) (by omega) (by omega), w64 (n := t2 * pw p (M - d2)) (by omega) (by omega), w64 (n := t1 * pw p (M - d1) - t2 * pw p (M - d2)) (by omega) (by omega)]
  have hD : (t1 * pw p (M - d1) - t2 * pw p (M - d2)).natAbs ≤ 9223372036854775807 := by omega
  generalize t1 * pw p (M - d1) - t2 * pw p (M - d2) = D at *
  by_cases z : D = 0
  · rw [if_pos z, if_pos z]
    simp only [Option.bind_some]
    rw [if_neg (by simp)]
  · rw [if_neg z, if_neg z, fO p D hp z hD k (by omega)]
    have hv := cz hp z (by omega)
    simp only [Option.bind_some, if_true]
    rw [w64 (by omega) (by omega)]
theorem ep {p l1 t1 d1 l2 t2 d2 : Int} (hp : Pr p) (hb : PM.Ok p ⟨l1, t1, d1⟩) (hc : PM.Ok p ⟨l2, t2, d2⟩) : ∀ k, 100 ≤ k → an.f k p l1 t1 d1 l2 t2 d2 = some (PM.dist p ⟨l1, t1, d1⟩ ⟨l2, t2, d2⟩) := by
  intro k hk
  unfold an.f
  rw [l02Join_eq hp hb hc k hk]
  simp only [Option.bind_some]
  exact congrArg some (fm hb hc)
def cvM (x : S58) : S59 := ⟨⟨x.f0.f0, x.f0.f1⟩, ⟨x.f1.f0, x.f1.f1⟩⟩
theorem rdU (l : List S58) (i : Nat) (h : i < l.length) : eD l (i : Int) = l[i]'h := by
  unfold eD; simp [List.getD_eq_getElem?_getD, h]
theorem toMats_eq (l : List S58) (hl : l.length ≤ 1048576) : ∃ K, ∀ k, K ≤ k → ao.f k l = some (l.map cvM) := by
  have go : ∀ (d k : Nat) (acc : List S59) (i : Nat), acc.length = l.length → i + d = l.length → d < k → (∀ j, j < i → acc[j]? = (l.map cvM)[j]?) → ao.l0 k l acc i = some (l.map cvM) := by
    intro d
    induction d with
    | zero =>
      intro k acc i h1 h2 h3 h4
      obtain ⟨k, rfl⟩ : ∃ m, k = m + 1 := ⟨k - 1, by omega⟩
      simp only [ao.l0]
      rw [if_neg (by omega)]
      congr 1
      apply List.ext_getElem?
      intro j
      by_cases hj : j < i
      · exact h4 j hj
      · rw [List.getElem?_eq_none (by omega), List.getElem?_eq_none (by rw [List.length_map]; omega)]
    | succ d ih =>
      intro k acc i h1 h2 h3 h4
      obtain ⟨k, rfl⟩ : ∃ m, k = m + 1 := ⟨k - 1, by omega⟩
      simp only [ao.l0]
      rw [if_pos (by omega), if_pos (by omega), rdU l i (by omega)]
      unfold dE.f
      simp only [Option.bind_some]
      rw [if_pos (by omega), w64 (by omega) (by omega)]
      refine ih k _ (i + 1) (by rw [List.length_set]; exact h1) (by omega) (by omega) fun j hj => ?_
      by_cases e : j = i
      · subst e
        rw [show ((j : Int).toNat) = j from by omega, List.getElem?_set_self (by omega), List.getElem?_map, List.getElem?_eq_getElem (by omega)]; rfl
      · rw [show ((i : Int).toNat) = i from by omega, List.getElem?_set_ne (by omega)]
        exact h4 j (by omega)
  refine ⟨l.length + 1, fun k hk => ?_⟩
  unfold ao.f
  rw [if_pos (by omega), if_pos (by omega)]
  exact go l.length k _ 0 (by simp) (by omega) (by omega) (by intro j hj; omega)
theorem sz_small (l : List S58) (h : l.length ≤ 1048576) : bz.f l 1048576 = some (1048576 - (l.length : Int)) := by
  unfold bz.f
  rw [w64 (by omega) (by omega), if_neg (by omega)]
theorem sz_large (l : List S58) (h : ¬ l.length ≤ 1048576) (h2 : l.length ≤ 9223372036854775807) : bz.f l 1048576 = some (-1) := by
  unfold bz.f
  rw [w64 (by omega) (by omega), if_pos (by omega)]
theorem eqMats (l : List S59) (hl : l.length ≤ 1048576) : ∃ K, ∀ k, K ≤ k → am.f k l l = some true := by
  have go : ∀ (d k i : Nat), i + d = l.length → d < k → am.l0 k l l i = some true := by
    intro d
    induction d with
    | zero =>
      intro k i h2 h3
      obtain ⟨k, rfl⟩ : ∃ m, k = m + 1 := ⟨k - 1, by omega⟩
      simp only [am.l0]
      rw [if_neg (by omega)]
    | succ d ih =>
      intro k i h2 h3
      obtain ⟨k, rfl⟩ : ∃ m, k = m + 1 := ⟨k - 1, by omega⟩
      simp only [am.l0]
      rw [if_pos (by omega), if_pos (by omega), if_pos (by omega)]
      unfold dN.f
      rw [decide_eq_true ⟨rfl, rfl, rfl, rfl⟩]
      simp only [Option.bind_some, if_true]
      rw [w64 (by omega) (by omega)]
      exact ih k (i + 1) (by omega) (by omega)
  refine ⟨l.length + 1, fun k hk => ?_⟩
  unfold am.f
  rw [if_pos rfl]
  exact go l.length k 0 (by omega) (by omega)
theorem markMats (l : List S59) (hl : l.length ≤ 1048576) : ∃ K, ∀ k, K ≤ k → bJ.f k l 1 = some 1 := by
  have go : ∀ (d k i : Nat), i + d = l.length → d < k → bJ.l0 k l 1 i = some 1 := by
    intro d
    induction d with
    | zero =>
      intro k i h2 h3
      obtain ⟨k, rfl⟩ : ∃ m, k = m + 1 := ⟨k - 1, by omega⟩
      simp only [bJ.l0]
      rw [if_neg (by omega)]
    | succ d ih =>
      intro k i h2 h3
      obtain ⟨k, rfl⟩ : ∃ m, k = m + 1 := ⟨k - 1, by omega⟩
      simp only [bJ.l0]
      rw [if_pos (by omega), w64 (by omega) (by omega)]
      exact ih k (i + 1) (by omega) (by omega)
  exact ⟨l.length + 1, fun k hk => go l.length k 0 (by omega) (by omega)⟩
def keepsB (p : Int) (b : PM.Ball) (x : S59) : Bool := decide (PM.moveB p x.f0.f0 x.f0.f1 x.f1.f0 x.f1.f1 b = some b)
def keepF (p : Int) (b : PM.Ball) : List S59 → Int → List Int
  | [], _ => []
  | x :: r, i => if keepsB p b x = true then i :: keepF p b r (i + 1) else keepF p b r (i + 1)
theorem keepF_cons (p : Int) (b : PM.Ball) (x : S59) (r : List S59) (i : Int) : keepF p b (x :: r) i = if keepsB p b x = true then i :: keepF p b r (i + 1) else keepF p b r (i + 1) := rfl
theorem keepF_len (p : Int) (b : PM.Ball) : ∀ (l : List S59) (i : Int), (keepF p b l i).length ≤ l.length
  | [], _ => by simp [keepF]
  | x :: r, i => by
    have := keepF_len p b r (i + 1)
    unfold keepF
    split <;> simp <;> omega
theorem enc_same (y : Option PM.Ball) (lv top dn : Int) : ((enc y).2.2.2 && ((enc y).1 == lv && ((enc y).2.1 == top && ((enc y).2.2.1 == dn)))) = decide (y = some ⟨lv, top, dn⟩) := by
  cases y with
  | none => simp [enc]
  | some y =>
    obtain ⟨a, b, c⟩ := y
    rw [Bool.eq_iff_iff]; simp [enc]
theorem l06Movers_eq (l : List S59) (m : Int) (hl : l.length ≤ 10000000) : ∀ k, l.length + 2 ≤ k → bN.f k l m = some (if l.all mOk = true then (if (l.length : Int) < 1 ∨ (l.length : Int) > m then 2 else 0) else 1) := by
  have go : ∀ (d i k : Nat), i + d = l.length → d < k → bN.l0 k l m i = some (if (l.drop i).all mOk = true then (if (l.length : Int) < 1 ∨ (l.length : Int) > m then 2 else 0) else 1) := by
    intro d
    induction d with
    | zero =>
      intro i k hi hk
      obtain ⟨k, rfl⟩ : ∃ m, k = m + 1 := ⟨k - 1, by omega⟩
      simp only [bN.l0]
      rw [if_neg (by omega), List.drop_eq_nil_of_le (by omega)]
      simp only [List.all_nil, if_true]
      by_cases h1 : (l.length : Int) < 1
      · rw [if_pos h1, if_pos (Or.inl h1)]
      · rw [if_neg h1]
        by_cases h2 : (l.length : Int) > m
        · rw [if_pos h2, if_pos (Or.inr h2)]
        · rw [if_neg h2, if_neg (fun h => h.elim h1 h2)]
    | succ d ih =>
      intro i k hi hk
      obtain ⟨k, rfl⟩ : ∃ m, k = m + 1 := ⟨k - 1, by omega⟩
      simp only [bN.l0]
      rw [if_pos (by omega), if_pos (by omega), rdM l i (by omega), l04Is_eq, all_drop mOk l i (by omega), w64 (by omega) (by omega), show ((i : Int) + 1) = ((i + 1 : Nat) : Int) from by omega, ih (i + 1) k (by omega) (by omega)]
      simp only [Option.bind_some]
      show _ = some (if (decide (PM.isM _ _ _ _) && _) = true then _ else _)
      by_cases h : PM.isM (l[i]'(by omega)).f0.f0 (l[i]'(by omega)).f0.f1 (l[i]'(by omega)).f1.f0 (l[i]'(by omega)).f1.f1
      · rw [decide_eq_true h]; simp
      · rw [decide_eq_false h]; simp
  intro k hk
  have := go l.length 0 k (by omega) (by omega)
  rw [show ((0 : Nat) : Int) = 0 from rfl, List.drop_zero] at this
  exact this
def enB (b : PM.Ball) : S43 := ⟨b.lv, b.top, b.dn⟩
theorem children_go {p : Int} {b : PM.Ball} (hp : Pr p) (hb : PM.Ok p b) : ∀ (c : Nat) (i : Int) (acc : List S43) (k : Nat), 0 ≤ i → i + c = p → acc.length + c ≤ 1000 → 13841287400 + c ≤ k → a7.l0 k p acc i b.lv b.top b.dn = some (match PM.someN p b c (i + 1) with | none => ([], false) | some l => (acc ++ l.map enB, true)) := by
  have hpl := hp.le
  intro c
  induction c with
  | zero =>
    intro i acc k h0 h1 h2 hk
    obtain ⟨k, rfl⟩ : ∃ m, k = m + 1 := ⟨k - 1, by omega⟩
    simp only [a7.l0]
    rw [if_neg (by omega)]
    simp [PM.someN]
  | succ c ih =>
    intro i acc k h0 h1 h2 hk
    obtain ⟨k, rfl⟩ : ∃ m, k = m + 1 := ⟨k - 1, by omega⟩
    simp only [a7.l0]
    rw [if_pos (by omega), specDown_eq hp hb (by omega) k (by omega)]
    simp only [Option.bind_some]
    have hY : PM.about p (b.lv + 1) (PM.mark p ⟨b.lv, b.top, b.dn⟩ + i * pw p (b.lv + 6)) = PM.nbr p b (i + 1) := by
      unfold PM.nbr; rw [if_neg (by omega), show i + 1 - 1 = i by omega]
    rw [hY, PM.someN]
    cases hy : PM.nbr p b (i + 1) with
    | none => rw [if_neg (by simp [enc])]; rfl
    | some y =>
      rw [if_pos (by simp [enc]), if_pos (by omega), w64 (n := i + 1) (by omega) (by omega), ih (i + 1) _ k (by omega) (by omega) (by simp; omega) (by omega)]
      simp only [Option.bind_some]
      cases PM.someN p b c (i + 1 + 1) with
      | none => rfl
      | some l => simp [enB, enc]
theorem near_eq {p : Int} {b : PM.Ball} (hp : Pr p) (hb : PM.Ok p b) : ∀ k, 13841287500 ≤ k → (∀ l, PM.nbrs p b = some l → cL.f k p b.lv b.top b.dn = some (l.map enB, true)) ∧ (PM.nbrs p b = none → ∃ m, cL.f k p b.lv b.top b.dn = some (m, false)) := by
  intro k hk
  have hpl := hp.le
  have hpp := hp.pos
  have hc := children_go hp hb p.toNat 0 [] k (by omega) (by omega) (by simp; omega) (by omega)
  have hY : PM.about p (b.lv - 1) (PM.mark p ⟨b.lv, b.top, b.dn⟩) = PM.nbr p b 0 := by
    unfold PM.nbr; rw [if_pos rfl]
  unfold cL.f a7.f
  rw [specUp_eq hp hb k (by omega), hc, hY]
  simp only [Option.bind_some]
  have hn : PM.nbrs p b = (PM.nbr p b 0).bind fun y => (PM.someN p b p.toNat (0 + 1)).map fun l => y :: l := rfl
  rw [hn]
  cases hy : PM.nbr p b 0 with
  | none =>
    refine ⟨fun l h => by simp at h, fun _ => ?_⟩
    cases hs : PM.someN p b p.toNat (0 + 1) with
    | none => simp [enc]
    | some l =>
      have := PM.someN_len _ _ _ hs
      simp [enc]; omega
  | some y =>
    cases hs : PM.someN p b p.toNat (0 + 1) with
    | none => exact ⟨fun l h => by simp at h, fun _ => by simp [enc]⟩
    | some l =>
      have := PM.someN_len _ _ _ hs
      refine ⟨fun m h => ?_, fun h => by simp at h⟩
      simp only [Option.bind_some, Option.map_some, Option.some.injEq] at h
      subst h
      simp only [enc]
      rw [if_pos (by simp; omega)]
      simp [enB]
theorem rdBn (l : List PM.Ball) (pre : List PM.Ball) (x : PM.Ball) : aD ((pre ++ x :: l).map enB) ((pre.length : Nat) : Int) = enB x := by
  simp [aD]
theorem sphere_l2 {p r n1 : Int} {b : PM.Ball} (hp : Pr p) (hb : PM.Ok p b) (cur : List S43) (i : Int) (R : List S43 × Int) (K : Nat) : ∀ (suf pre : List PM.Ball) (acc : List S43), (∀ y, y ∈ suf → PM.Ok p y) → pre.length + suf.length ≤ 1000 → acc.length + suf.length ≤ 1000000 → (∀ k, K ≤ k → aH.l1 k p r cur n1 (acc ++ (suf.filter (fun y => decide (PM.dist p b y = n1))).map enB) (wrap64 (i + 1)) b.lv b.top b.dn = some R) → ∀ k, K + suf.length + 101 ≤ k → aH.l2 k p r cur n1 acc i ((pre ++ suf).map enB) ((pre.length : Nat) : Int) b.lv b.top b.dn = some R := by
  intro suf
  induction suf with
  | nil =>
    intro pre acc ho h1 h2 H k hk
    obtain ⟨k, rfl⟩ : ∃ m, k = m + 1 := ⟨k - 1, by omega⟩
    simp only [aH.l2]
    rw [if_neg (by simp)]
    have := H k (by omega)
    simpa using this
  | cons y suf ih =>
    intro pre acc ho h1 h2 H k hk
    simp only [List.length_cons] at h1 h2 hk
    obtain ⟨k, rfl⟩ : ∃ m, k = m + 1 := ⟨k - 1, by omega⟩
    have oy := ho y List.mem_cons_self
    simp only [aH.l2]
    rw [if_pos (by simp; omega), if_pos (by omega), rdBn suf pre y, w64 (n := (pre.length : Int) + 1) (by omega) (by omega)]
    show ((an.f k p b.lv b.top b.dn y.lv y.top y.dn).bind _) = _
    rw [ep hp hb oy k (by omega)]
    simp only [Option.bind_some]
    have e1 : (pre ++ y :: suf) = ((pre ++ [y]) ++ suf) := by simp
    have e2 : (pre.length : Int) + 1 = (((pre ++ [y]).length : Nat) : Int) := by simp
    show (if PM.dist p b y = n1 then _ else _) = _
    by_cases q : PM.dist p b y = n1
    · rw [if_pos q, if_pos (by omega), e1, e2]
      refine ih (pre ++ [y]) _ (fun z hz => ho z (List.mem_cons_of_mem _ hz)) (by simp; omega) (by simp; omega) (fun k hk => ?_) k (by omega)
      have := H k hk
      rw [List.filter_cons_of_pos (by simpa using q)] at this
      simpa [enB, List.append_assoc] using this
    · rw [if_neg q, e1, e2]
      refine ih (pre ++ [y]) _ (fun z hz => ho z (List.mem_cons_of_mem _ hz)) (by simp; omega) (by omega) (fun k hk => ?_) k (by omega)
      have := H k hk
      rwa [List.filter_cons_of_neg (by simpa using q)] at this
theorem sphere_l1 {p r n : Int} {b : PM.Ball} (hp : Pr p) (hb : PM.Ok p b) (hn : 0 ≤ n ∧ n ≤ 10) (R : List S43 × Int) (K : Nat) (hK : 13841287600 ≤ K) : ∀ (suf pre : List PM.Ball) (acc : List S43), (∀ y, y ∈ suf → PM.Ok p y) → pre.length + suf.length ≤ 100000 → acc.length + 8 * suf.length ≤ 900000 → (∀ l, PM.nextS p b n suf = some l → ∀ k, K ≤ k → aH.l0 k p r (acc ++ l.map enB) (wrap64 ((n + 1) + 1)) b.lv b.top b.dn = some R) → (PM.nextS p b n suf = none → R = ([], 3)) → ∀ k, K + 200 * suf.length + 1 ≤ k → aH.l1 k p r ((pre ++ suf).map enB) (n + 1) acc ((pre.length : Nat) : Int) b.lv b.top b.dn = some R := by
  have hpl := hp.le
  have hpp := hp.pos
  intro suf
  induction suf with
  | nil =>
    intro pre acc ho h1 h2 H Hn k hk
    obtain ⟨k, rfl⟩ : ∃ m, k = m + 1 := ⟨k - 1, by omega⟩
    simp only [aH.l1]
    rw [if_neg (by simp)]
    have := H [] rfl k (by omega)
    simpa using this
  | cons x suf ih =>
    intro pre acc ho h1 h2 H Hn k hk
    simp only [List.length_cons] at h1 h2 hk
    obtain ⟨k, rfl⟩ : ∃ m, k = m + 1 := ⟨k - 1, by omega⟩
    have ox := ho x List.mem_cons_self
    simp only [aH.l1]
    rw [if_pos (by simp; omega), if_pos (by omega), rdBn suf pre x]
    show ((cL.f k p x.lv x.top x.dn).bind _) = _
    obtain ⟨n1, n2⟩ := near_eq hp ox k (by omega)
    cases hm : PM.nbrs p x with
    | none =>
      obtain ⟨m, e⟩ := n2 hm
      rw [e]
      simp only [Option.bind_some]
      rw [if_neg (by simp), Hn (by unfold PM.nextS; rw [hm]; rfl)]
    | some m =>
      rw [n1 m hm]
      simp only [Option.bind_some]
      rw [if_pos trivial]
      have ml := PM.someN_len _ _ _ hm
      have e1 : (pre ++ x :: suf) = ((pre ++ [x]) ++ suf) := by simp
      have flen : (m.filter (fun y => decide (PM.dist p b y = n + 1))).length ≤ m.length := List.length_filter_le ..
      refine sphere_l2 hp hb _ (pre.length : Int) R (K + 200 * suf.length + 1) m [] acc (fun y hy => by
        obtain ⟨j, _, _, j3⟩ := PM.someN_mem _ _ _ hm y hy
        exact PM.nbr_ok hp j3) (by simp; omega) (by omega) (fun k hk => ?_) k (by omega)
      rw [w64 (n := (pre.length : Int) + 1) (by omega) (by omega), e1, show (pre.length : Int) + 1 = (((pre ++ [x]).length : Nat) : Int) by simp]
      refine ih (pre ++ [x]) _ (fun z hz => ho z (List.mem_cons_of_mem _ hz)) (by simp; omega) (by simp; omega) (fun l hl k hk => ?_) (fun h => ?_) k (by omega)
      · have := H _ (show PM.nextS p b n (x :: suf) = some (m.filter (fun y => decide (PM.dist p b y = n + 1)) ++ l) by unfold PM.nextS; rw [hm, Option.bind_some, hl]; rfl) k hk
        simpa [List.append_assoc] using this
      · exact Hn (by unfold PM.nextS; rw [hm, Option.bind_some, h]; rfl)
theorem nextS_len {p n : Int} {b : PM.Ball} (hp : Pr p) : ∀ (l r : List PM.Ball), PM.nextS p b n l = some r → r.length ≤ 8 * l.length
  | [], r, h => by obtain rfl := Option.some.inj h; simp
  | x :: l, r, h => by
    have hpl := hp.le
    unfold PM.nextS at h
    obtain ⟨m, e1, e2⟩ := Option.bind_eq_some_iff.mp h
    obtain ⟨s, e3, rfl⟩ := Option.map_eq_some_iff.mp e2
    have ml := PM.someN_len _ _ _ e1
    have flen : (m.filter (fun y => decide (PM.dist p b y = n + 1))).length ≤ m.length := List.length_filter_le ..
    have := nextS_len hp l s e3
    simp only [List.length_append, List.length_cons]; omega
theorem sph_len {p : Int} {b : PM.Ball} (hp : Pr p) : ∀ (n : Nat) (l : List PM.Ball), PM.sph p b n = some l → l.length ≤ 8 ^ n
  | 0, l, h => by obtain rfl := Option.some.inj h; simp
  | n + 1, l, h => by
    unfold PM.sph at h
    obtain ⟨m, e1, e2⟩ := Option.bind_eq_some_iff.mp h
    have := sph_len hp n m e1
    have := nextS_len hp m l e2
    rw [Nat.pow_succ]; omega
theorem sph_none {p : Int} {b : PM.Ball} (n : Nat) (h : PM.sph p b n = none) : ∀ d : Nat, PM.sph p b (n + d) = none
  | 0 => h
  | d + 1 => by show (PM.sph p b (n + d)).bind _ = none; rw [sph_none n h d]; rfl
def dj (p : Int) (b : PM.Ball) (r : Nat) : List S43 × Int := match PM.sph p b r with
  | none => ([], 3)
  | some l => (l.map enB, 0)
theorem sphere_l0 {p : Int} {b : PM.Ball} (hp : Pr p) (hb : PM.Ok p b) (r : Nat) (hr : r ≤ 4) : ∀ (d n : Nat) (l : List PM.Ball), n + d = r → PM.sph p b n = some l → ∀ k, 13841287600 + 1000000 * d + 1 ≤ k → aH.l0 k p (r : Int) (l.map enB) ((n : Int) + 1) b.lv b.top b.dn = some (dj p b r) := by
  intro d
  induction d with
  | zero =>
    intro n l hn hl k hk
    obtain ⟨k, rfl⟩ : ∃ m, k = m + 1 := ⟨k - 1, by omega⟩
    simp only [aH.l0]
    rw [if_neg (by omega)]
    obtain rfl : n = r := by omega
    unfold dj; rw [hl]
  | succ d ih =>
    intro n l hn hl k hk
    obtain ⟨k, rfl⟩ : ∃ m, k = m + 1 := ⟨k - 1, by omega⟩
    have hlen : l.length ≤ 4096 := Nat.le_trans (sph_len hp n l hl) (Nat.le_trans (Nat.pow_le_pow_right (by decide) (show n ≤ 4 by omega)) (by decide))
    simp only [aH.l0]
    rw [if_pos (by omega)]
    obtain ⟨B, hB⟩ : ∃ B : Nat, B = 13841287600 + 1000000 * d + 1 := ⟨_, rfl⟩
    have hB2 : 13841287600 ≤ B := by
      clear ih hk
      rw [hB, Nat.add_assoc]; exact Nat.le_add_right _ _
    have := sphere_l1 (r := (r : Int)) (n := (n : Int)) hp hb (by omega) (dj p b r) B hB2 l [] [] (fun y hy => (PM.sph_mem hp hb n l hl y hy).1) (by simp; omega) (by simp; omega) (fun l' h' k hk => by
      rw [w64 (n := (n : Int) + 1 + 1) (by omega) (by omega), List.nil_append]
      exact ih (n + 1) l' (by omega) (by show (PM.sph p b n).bind _ = _; rw [hl]; exact h') k (by omega)) (fun h' => by
      have e : PM.sph p b (n + 1) = none := by show (PM.sph p b n).bind _ = _; rw [hl]; exact h'
      have := sph_none (n + 1) e d
      rw [show n + 1 + d = r by omega] at this
      unfold dj; rw [this]) k (by omega)
    simpa using this
theorem eS {p : Int} {b : PM.Ball} (hp : Pr p) (hb : PM.Ok p b) (r : Nat) (hr : r ≤ 4) : ∃ K, ∀ k, K ≤ k → aH.f k p b.lv b.top b.dn (r : Int) = some (dj p b r) := by
  obtain ⟨K, h⟩ := l01Code_eq p [enB b] (by simp)
  refine ⟨K + 13841287600 + 1000000 * r + 10, fun k hk => ?_⟩
  obtain ⟨k, rfl⟩ : ∃ m, k = m + 1 := ⟨k - 1, by omega⟩
  obtain ⟨k, rfl⟩ : ∃ m, k = m + 1 := ⟨k - 1, by omega⟩
  have e : [enB b].all (bOk p) = true := by
    simp only [List.all_cons, List.all_nil, Bool.and_true, bOk, decide_eq_true_iff]; exact hb
  unfold aH.f
  show ((bR.f (k + 1 + 1) p [enB b]).bind _) = _
  rw [h _ (by omega), if_pos ⟨hp, e⟩]
  simp only [Option.bind_some]
  rw [if_pos trivial, in_eq, decide_eq_true (show (0 : Int) ≤ (r : Int) ∧ (r : Int) ≤ 4 by omega)]
  simp only [Option.bind_some, aH.j0, aH.j1]
  rw [if_neg (by simp), if_pos trivial]
  exact sphere_l0 hp hb r hr r 0 [b] (by omega) rfl k (by omega)
theorem fX {p : Int} {b : PM.Ball} (hp : Pr p) (hb : PM.Ok p b) : ∀ (c : Nat) (i : Int) (acc : List S43) (k : Nat), 0 ≤ i → i + c = p + 1 → acc.length + c ≤ 1000 → 75 + c ≤ k → ae.l0 k p acc i b.lv b.top b.dn = some (match PM.someN p b c i with | none => ([], false) | some l => (acc ++ l.map enB, true)) := by
  have hpl := hp.le
  intro c
  induction c with
  | zero =>
    intro i acc k h0 h1 h2 hk
    obtain ⟨k, rfl⟩ : ∃ m, k = m + 1 := ⟨k - 1, by omega⟩
    simp only [ae.l0]
    rw [if_neg (by omega)]
    simp [PM.someN]
  | succ c ih =>
    intro i acc k h0 h1 h2 hk
    obtain ⟨k, rfl⟩ : ∃ m, k = m + 1 := ⟨k - 1, by omega⟩
    simp only [ae.l0]
    rw [if_pos (by omega), neighbour_eq hp hb (by omega) k (by omega), show nb p ⟨b.lv, b.top, b.dn⟩ i = PM.nbr p b i from rfl, PM.someN]
    simp only [Option.bind_some]
    cases hy : PM.nbr p b i with
    | none => rw [if_neg (by simp [enc])]; rfl
    | some y =>
      rw [if_pos (by simp [enc]), if_pos (by omega), w64 (n := i + 1) (by omega) (by omega), ih (i + 1) _ k (by omega) (by omega) (by simp; omega) (by omega)]
      simp only [Option.bind_some]
      cases PM.someN p b c (i + 1) with
      | none => rfl
      | some l => simp [enB, enc]
theorem fY {p : Int} {b : PM.Ball} (hp : Pr p) (hb : PM.Ok p b) : ∀ k, 200 ≤ k → ae.f k p b.lv b.top b.dn 0 = some (match PM.nbrs p b with | none => ([], false) | some l => (l.map enB, true)) := by
  intro k hk
  have hpl := hp.le
  have hpp := hp.pos
  have := fX hp hb (p.toNat + 1) 0 [] k (by omega) (by omega) (by simp; omega) (by omega)
  unfold ae.f
  rw [this]; rfl
theorem ok_zero {p : Int} : PM.Ok p ⟨0, 0, 0⟩ := by
  unfold PM.Ok; simp
def regF (p : Int) : Nat → Nat → List S43
  | 0, n => (dj p ⟨0, 0, 0⟩ n).1
  | d + 1, n => (dj p ⟨0, 0, 0⟩ n).1 ++ regF p d (n + 1)
theorem fW {p : Int} {b : PM.Ball} (hp : Pr p) (n : Nat) (hn : n ≤ 4) : (dj p b n).1.length ≤ 4096 := by
  unfold dj
  cases e : PM.sph p b n with
  | none => simp
  | some l =>
    have : l.length ≤ 4096 := Nat.le_trans (sph_len hp n l e) (Nat.le_trans (Nat.pow_le_pow_right (by decide) hn) (by decide))
    simpa using this
theorem region_go {p : Int} (hp : Pr p) (h0 : PM.Ok p ⟨0, 0, 0⟩) (r : Nat) (hr : r ≤ 4) : ∀ (d n : Nat) (acc : List S43), n + d = r → (acc.length : Int) + 5000 * (d : Int) ≤ 900000 → ∃ K, ∀ k, K ≤ k → bI.l0 k p (r : Int) acc (n : Int) = some (acc ++ regF p d n) := by
  intro d
  induction d with
  | zero =>
    intro n acc hn hl
    obtain ⟨K, hK⟩ := eS hp h0 n (by omega)
    have hlen := fW (b := ⟨0, 0, 0⟩) hp n (by omega)
    refine ⟨K + 5, fun k hk => ?_⟩
    obtain ⟨k, rfl⟩ : ∃ m, k = m + 1 := ⟨k - 1, by omega⟩
    obtain ⟨k, rfl⟩ : ∃ m, k = m + 1 := ⟨k - 1, by omega⟩
    have e : aH.f (k + 1) p 0 0 0 (n : Int) = some (dj p ⟨0, 0, 0⟩ n) := hK (k + 1) (by omega)
    simp only [bI.l0]
    rw [if_pos (by omega), e]
    simp only [Option.bind_some]
    rw [if_pos (by omega), w64 (n := (n : Int) + 1) (by omega) (by omega), if_neg (by omega)]
    rfl
  | succ d ih =>
    intro n acc hn hl
    obtain ⟨K, hK⟩ := eS hp h0 n (by omega)
    have hlen := fW (b := ⟨0, 0, 0⟩) hp n (by omega)
    obtain ⟨K2, hK2⟩ := ih (n + 1) (acc ++ (dj p ⟨0, 0, 0⟩ n).1) (by omega) (by simp; omega)
    refine ⟨K + K2 + 5, fun k hk => ?_⟩
    obtain ⟨k, rfl⟩ : ∃ m, k = m + 1 := ⟨k - 1, by omega⟩
    have e : aH.f k p 0 0 0 (n : Int) = some (dj p ⟨0, 0, 0⟩ n) := hK k (by omega)
    simp only [bI.l0]
    rw [if_pos (by omega), e]
    simp only [Option.bind_some]
    rw [if_pos (by omega), w64 (n := (n : Int) + 1) (by omega) (by omega), show (n : Int) + 1 = ((n + 1 : Nat) : Int) by omega, hK2 k (by omega), List.append_assoc]
    rfl
theorem l06Region_eq {p : Int} (hp : Pr p) (r : Nat) (hr : r ≤ 4) : ∃ K, ∀ k, K ≤ k → bI.f k p (r : Int) = some (regF p r 0) := by
  obtain ⟨K, h⟩ := region_go hp ok_zero r hr r 0 [] (by omega) (by simp; omega)
  refine ⟨K, fun k hk => ?_⟩
  unfold bI.f
  have := h k hk
  simpa using this
def fJ (p : Int) (b : PM.Ball) (n : Nat) : List (List S43) := (List.range (n + 1)).map fun i => (dj p b i).1
theorem fe (p : Int) (b : PM.Ball) (n : Nat) : (fJ p b n).length = n + 1 := by simp [fJ]
theorem outs_succ (p : Int) (b : PM.Ball) (n : Nat) : fJ p b (n + 1) = fJ p b n ++ [(dj p b (n + 1)).1] := by
  unfold fJ; rw [List.range_succ (n := n + 1), List.map_append]; rfl
theorem outs_get (p : Int) (b : PM.Ball) (n i : Nat) (h : i ≤ n) : ax (fJ p b n) (i : Int) = (dj p b i).1 := by
  unfold ax fJ
  rw [Int.toNat_natCast, List.getD_eq_getElem?_getD, List.getElem?_map, List.getElem?_range (by omega)]; rfl
theorem isph_l2 {p r n : Int} {b : PM.Ball} (hp : Pr p) (hb : PM.Ok p b) (X : List (List S43)) (cur : List S43) (cl i : Int) (R : List (List S43) × Bool) (K : Nat) : ∀ (suf pre : List PM.Ball) (acc : List S43), (∀ y, y ∈ suf → PM.Ok p y ∧ (PM.dist p b y > n ↔ PM.dist p b y = n + 1)) → pre.length + suf.length ≤ 1000 → acc.length + suf.length ≤ 1000000 → (∀ k, K ≤ k → aY.l1 k p X n (acc ++ (suf.filter (fun y => decide (PM.dist p b y = n + 1))).map enB) r n cur cl (wrap64 (i + 1)) b.lv b.top b.dn = some R) → ∀ k, K + suf.length + 101 ≤ k → aY.l2 k p X n acc r n cur cl i ((pre ++ suf).map enB) (((pre ++ suf).map enB).length : Int) ((pre.length : Nat) : Int) b.lv b.top b.dn = some R := by
  intro suf
  induction suf with
  | nil =>
    intro pre acc ho h1 h2 H k hk
    obtain ⟨k, rfl⟩ : ∃ m, k = m + 1 := ⟨k - 1, by omega⟩
    simp only [aY.l2]
    rw [if_neg (by simp)]
    have := H k (by omega)
    simpa using this
  | cons y suf ih =>
    intro pre acc ho h1 h2 H k hk
    simp only [List.length_cons] at h1 h2 hk
    obtain ⟨k, rfl⟩ : ∃ m, k = m + 1 := ⟨k - 1, by omega⟩
    obtain ⟨oy, hy⟩ := ho y List.mem_cons_self
    simp only [aY.l2]
    rw [if_pos (by simp; omega), if_pos (by omega), if_pos (by simp; omega), rdBn suf pre y, w64 (n := (pre.length : Int) + 1) (by omega) (by omega)]
    show ((bG.f k p b.lv b.top b.dn y.lv y.top y.dn).bind _) = _
    rw [distance_eq hp hb oy k (by omega)]
    simp only [Option.bind_some]
    have e1 : (pre ++ y :: suf) = ((pre ++ [y]) ++ suf) := by simp
    have e2 : (pre.length : Int) + 1 = (((pre ++ [y]).length : Nat) : Int) := by simp
    show (if PM.dist p b y > n then _ else _) = _
    by_cases q : PM.dist p b y > n
    · have q2 := hy.mp q
      rw [if_pos q, if_pos (by omega), e1, e2]
      refine ih (pre ++ [y]) _ (fun z hz => ho z (List.mem_cons_of_mem _ hz)) (by simp; omega) (by simp; omega) (fun k hk => ?_) k (by omega)
      have := H k hk
      rw [List.filter_cons_of_pos (by simpa using q2)] at this
      simpa [enB, List.append_assoc] using this
    · have q2 : ¬ PM.dist p b y = n + 1 := fun z => q (hy.mpr z)
      rw [if_neg q, e1, e2]
      refine ih (pre ++ [y]) _ (fun z hz => ho z (List.mem_cons_of_mem _ hz)) (by simp; omega) (by omega) (fun k hk => ?_) k (by omega)
      have := H k hk
      rwa [List.filter_cons_of_neg (by simpa using q2)] at this
theorem isph_l1 {p r n : Int} {b : PM.Ball} (hp : Pr p) (hb : PM.Ok p b) (hn : 0 ≤ n ∧ n ≤ 10) (X : List (List S43)) (hX : X.length ≤ 1000) (R : List (List S43) × Bool) (K : Nat) (hK : 200 ≤ K) : ∀ (suf pre : List PM.Ball) (acc : List S43), (∀ y, y ∈ suf → PM.Ok p y ∧ PM.dist p b y = n) → pre.length + suf.length ≤ 100000 → acc.length + 8 * suf.length ≤ 900000 → (∀ l, PM.nextS p b n suf = some l → ∀ k, K ≤ k → aY.l0 k p (X ++ [acc ++ l.map enB]) r (wrap64 (n + 1)) b.lv b.top b.dn = some R) → (PM.nextS p b n suf = none → R = ([], false)) → ∀ k, K + 200 * suf.length + 1 ≤ k → aY.l1 k p X n acc r n ((pre ++ suf).map enB) (((pre ++ suf).map enB).length : Int) ((pre.length : Nat) : Int) b.lv b.top b.dn = some R := by
  have hpl := hp.le
  have hpp := hp.pos
  intro suf
  induction suf with
  | nil =>
    intro pre acc ho h1 h2 H Hn k hk
    obtain ⟨k, rfl⟩ : ∃ m, k = m + 1 := ⟨k - 1, by omega⟩
    simp only [aY.l1]
    rw [if_neg (by simp), if_pos (by omega)]
    have := H [] rfl k (by omega)
    simpa using this
  | cons x suf ih =>
    intro pre acc ho h1 h2 H Hn k hk
    simp only [List.length_cons] at h1 h2 hk
    obtain ⟨k, rfl⟩ : ∃ m, k = m + 1 := ⟨k - 1, by omega⟩
    obtain ⟨ox, dx⟩ := ho x List.mem_cons_self
    simp only [aY.l1]
    rw [if_pos (by simp; omega), if_pos (by omega), if_pos (by simp; omega), rdBn suf pre x]
    show ((ae.f k p x.lv x.top x.dn 0).bind _) = _
    rw [fY hp ox k (by omega)]
    simp only [Option.bind_some]
    cases hm : PM.nbrs p x with
    | none =>
      simp only
      rw [if_neg (by simp), Hn (by unfold PM.nextS; rw [hm]; rfl)]
    | some m =>
      simp only
      rw [if_pos trivial]
      have ml := PM.someN_len _ _ _ hm
      have e1 : (pre ++ x :: suf) = ((pre ++ [x]) ++ suf) := by simp
      have flen : (m.filter (fun y => decide (PM.dist p b y = n + 1))).length ≤ m.length := List.length_filter_le ..
      refine isph_l2 hp hb X _ _ (pre.length : Int) R (K + 200 * suf.length + 1) m [] acc (fun y hy => by
        obtain ⟨j, _, _, j3⟩ := PM.someN_mem _ _ _ hm y hy
        exact ⟨PM.nbr_ok hp j3, PM.beyond hp hb ox dx j3⟩) (by simp; omega) (by omega) (fun k hk => ?_) k (by omega)
      rw [w64 (n := (pre.length : Int) + 1) (by omega) (by omega), e1, show (pre.length : Int) + 1 = (((pre ++ [x]).length : Nat) : Int) by simp]
      refine ih (pre ++ [x]) _ (fun z hz => ho z (List.mem_cons_of_mem _ hz)) (by simp; omega) (by simp; omega) (fun l hl k hk => ?_) (fun h => ?_) k (by omega)
      · have := H _ (show PM.nextS p b n (x :: suf) = some (m.filter (fun y => decide (PM.dist p b y = n + 1)) ++ l) by unfold PM.nextS; rw [hm, Option.bind_some, hl]; rfl) k hk
        simpa [List.append_assoc] using this
      · exact Hn (by unfold PM.nextS; rw [hm, Option.bind_some, h]; rfl)
def sphsR (p : Int) (b : PM.Ball) (r : Nat) : List (List S43) × Bool := match PM.sph p b r with
  | none => ([], false)
  | some _ => (fJ p b r, true)
theorem isph_l0 {p : Int} {b : PM.Ball} (hp : Pr p) (hb : PM.Ok p b) (r : Nat) (hr : r ≤ 4) : ∀ (d n : Nat) (l : List PM.Ball), n + d = r → PM.sph p b n = some l → ∀ k, 1000 + 1000000 * d + 1 ≤ k → aY.l0 k p (fJ p b n) (r : Int) (n : Int) b.lv b.top b.dn = some (sphsR p b r) := by
  intro d
  induction d with
  | zero =>
    intro n l hn hl k hk
    obtain ⟨k, rfl⟩ : ∃ m, k = m + 1 := ⟨k - 1, by omega⟩
    simp only [aY.l0]
    rw [if_neg (by omega)]
    obtain rfl : n = r := by omega
    unfold sphsR; rw [hl]
  | succ d ih =>
    intro n l hn hl k hk
    obtain ⟨k, rfl⟩ : ∃ m, k = m + 1 := ⟨k - 1, by omega⟩
    have hlen : l.length ≤ 4096 := Nat.le_trans (sph_len hp n l hl) (Nat.le_trans (Nat.pow_le_pow_right (by decide) (show n ≤ 4 by omega)) (by decide))
    have hg : ax (fJ p b n) (n : Int) = l.map enB := by
      rw [outs_get p b n n (Nat.le_refl _)]; unfold dj; rw [hl]
    simp only [aY.l0]
    rw [if_pos (by omega), if_pos (by omega), if_pos (by rw [fe]; omega), hg]
    obtain ⟨B, hB⟩ : ∃ B : Nat, B = 1000 + 1000000 * d + 1 := ⟨_, rfl⟩
    have hB2 : 200 ≤ B := by
      clear ih hk
      omega
    have := isph_l1 (r := (r : Int)) (n := (n : Int)) hp hb (by omega) (fJ p b n) (by rw [fe]; omega) (sphsR p b r) B hB2 l [] [] (fun y hy => by
      obtain ⟨o, e⟩ := PM.sph_mem hp hb n l hl y hy
      exact ⟨o, e⟩) (by simp; omega) (by simp; omega) (fun l' h' k hk => by
      have hs : PM.sph p b (n + 1) = some l' := by show (PM.sph p b n).bind _ = _; rw [hl]; exact h'
      rw [w64 (n := (n : Int) + 1) (by omega) (by omega), List.nil_append]
      have e : fJ p b n ++ [l'.map enB] = fJ p b (n + 1) := by rw [outs_succ]; unfold dj; rw [hs]
      rw [e, show (n : Int) + 1 = ((n + 1 : Nat) : Int) by omega]
      exact ih (n + 1) l' (by omega) hs k (by omega)) (fun h' => by
      have e : PM.sph p b (n + 1) = none := by show (PM.sph p b n).bind _ = _; rw [hl]; exact h'
      have := sph_none (n + 1) e d
      rw [show n + 1 + d = r by omega] at this
      unfold sphsR; rw [this]) k (by omega)
    simpa using this
theorem spheres_eq {p : Int} {b : PM.Ball} (hp : Pr p) (hb : PM.Ok p b) (r : Nat) (hr : r ≤ 4) : ∀ k, 5000000 ≤ k → aY.f k p b.lv b.top b.dn (r : Int) = some (sphsR p b r) := by
  intro k hk
  unfold aY.f
  exact isph_l0 hp hb r hr r 0 [b] (by omega) rfl k (by omega)
theorem sphs_some {p : Int} {b : PM.Ball} (hp : Pr p) (hb : PM.Ok p b) (r : Nat) (h0 : -6 < b.lv - r + 1) (h1 : b.lv + r - 1 < 6) : sphsR p b r = (fJ p b r, true) := by
  obtain ⟨l, e⟩ := PM.sph_some hp hb r h0 h1
  unfold sphsR; rw [e]
theorem rdLn (l : List (List S43)) (pre : List (List S43)) (x : List S43) : ax (pre ++ x :: l) ((pre.length : Nat) : Int) = x := by
  simp [ax]
theorem concat_l1 : ∀ (suf pre : List (List S43)) (acc : List S43), pre.length + suf.length ≤ 1000 → acc.length + suf.flatten.length ≤ 1000000 → ∀ k, suf.length + 1 ≤ k → az.l1 k acc (pre ++ suf) ((pre ++ suf).length : Int) ((pre.length : Nat) : Int) = some (acc ++ suf.flatten) := by
  intro suf
  induction suf with
  | nil =>
    intro pre acc h1 h2 k hk
    obtain ⟨k, rfl⟩ : ∃ m, k = m + 1 := ⟨k - 1, by omega⟩
    simp only [az.l1]
    rw [if_neg (by simp)]; simp
  | cons x suf ih =>
    intro pre acc h1 h2 k hk
    simp only [List.length_cons, List.flatten_cons, List.length_append] at h1 h2 hk
    obtain ⟨k, rfl⟩ : ∃ m, k = m + 1 := ⟨k - 1, by omega⟩
    simp only [az.l1]
    rw [if_pos (by simp; omega), if_pos (by omega), if_pos (by simp; omega), rdLn suf pre x, if_pos (by omega), w64 (n := (pre.length : Int) + 1) (by omega) (by omega)]
    have e1 : (pre ++ x :: suf) = ((pre ++ [x]) ++ suf) := by simp
    rw [e1, show (pre.length : Int) + 1 = (((pre ++ [x]).length : Nat) : Int) by simp, ih (pre ++ [x]) (acc ++ x) (by simp; omega) (by rw [List.length_append]; omega) k (by omega), List.flatten_cons, List.append_assoc]
theorem concat_l0 (all : List (List S43)) (ha : all.flatten.length ≤ 1000000) (hal : all.length ≤ 1000) : ∀ (suf pre : List (List S43)) (s : Int), all = pre ++ suf → 0 ≤ s → s + suf.flatten.length ≤ 1000000 → ∀ k, suf.length + all.length + 2 ≤ k → az.l0 k all s all (all.length : Int) ((pre.length : Nat) : Int) = some all.flatten := by
  intro suf
  induction suf with
  | nil =>
    intro pre s he h0 h2 k hk
    obtain ⟨k, rfl⟩ : ∃ m, k = m + 1 := ⟨k - 1, by omega⟩
    simp only [List.flatten_nil, List.length_nil] at h2
    simp only [az.l0]
    rw [if_neg (by rw [he]; simp), show cW.f 0 s = some [] from by unfold cW.f; rw [if_pos (by omega)]]
    simp only [Option.bind_some]
    have := concat_l1 all [] [] (by simp; omega) (by rw [List.length_nil]; omega) k (by simp at hk; omega)
    simpa using this
  | cons x suf ih =>
    intro pre s he h0 h2 k hk
    simp only [List.length_cons, List.flatten_cons, List.length_append] at h2 hk
    obtain ⟨k, rfl⟩ : ∃ m, k = m + 1 := ⟨k - 1, by omega⟩
    have hal2 : pre.length + suf.length + 1 ≤ 1000 := by rw [he] at hal; simp at hal; omega
    have hx : ax all (pre.length : Int) = x := by rw [he]; exact rdLn suf pre x
    simp only [az.l0]
    rw [if_pos (by rw [he]; simp; omega), if_pos (by omega), if_pos (by rw [he]; simp; omega), hx, w64 (n := s + (x.length : Int)) (by omega) (by omega), if_neg (by omega), w64 (n := (pre.length : Int) + 1) (by omega) (by omega), show (pre.length : Int) + 1 = (((pre ++ [x]).length : Nat) : Int) by simp]
    exact ih (pre ++ [x]) (s + (x.length : Int)) (by rw [he]; simp) (by omega) (by omega) k (by omega)
theorem concat_eq (all : List (List S43)) (ha : all.flatten.length ≤ 1000000) (hal : all.length ≤ 1000) : ∀ k, 2 * all.length + 2 ≤ k → az.f k all = some all.flatten := by
  intro k hk
  unfold az.f
  exact concat_l0 all ha hal all [] 0 rfl (by omega) (by omega) k (by omega)
theorem regF_eq (p : Int) : ∀ (d n : Nat), regF p d n = ((List.range (d + 1)).map fun i => (dj p ⟨0, 0, 0⟩ (n + i)).1).flatten := by
  intro d
  induction d with
  | zero => intro n; simp [regF]
  | succ d ih =>
    intro n
    rw [List.range_succ_eq_map, List.map_cons, List.flatten_cons, List.map_map]
    show (dj p ⟨0, 0, 0⟩ n).1 ++ regF p d (n + 1) = _
    rw [ih (n + 1)]
    have : (fun i => (dj p ⟨0, 0, 0⟩ (n + 1 + i)).1) = ((fun i => (dj p ⟨0, 0, 0⟩ (n + i)).1) ∘ Nat.succ) := by
      funext i; simp only [Function.comp]; rw [show n + 1 + i = n + i.succ by omega]
    rw [this]; rfl
theorem outs_flat (p : Int) (r : Nat) : (fJ p ⟨0, 0, 0⟩ r).flatten = regF p r 0 := by
  rw [regF_eq]; unfold fJ; simp
theorem regF_len {p : Int} (hp : Pr p) : ∀ (d n : Nat), n + d ≤ 4 → (regF p d n).length ≤ 4096 * (d + 1) := by
  intro d
  induction d with
  | zero => intro n h; have := fW (b := ⟨0, 0, 0⟩) hp n (by omega); simpa [regF] using this
  | succ d ih =>
    intro n h
    have h1 := fW (b := ⟨0, 0, 0⟩) hp n (by omega)
    have h2 := ih (n + 1) (by omega)
    show ((dj p ⟨0, 0, 0⟩ n).1 ++ regF p d (n + 1)).length ≤ _
    rw [List.length_append]; omega
theorem region_eq {p : Int} (hp : Pr p) (r : Nat) (hr : r ≤ 4) : ∀ k, 5000000 ≤ k → dI.f k p (r : Int) = some (regF p r 0) := by
  intro k hk
  have hs := sphs_some hp ok_zero r (show (-6 : Int) < 0 - r + 1 by omega) (show (0 : Int) + r - 1 < 6 by omega)
  have he : aY.f k p 0 0 0 (r : Int) = some (sphsR p ⟨0, 0, 0⟩ r) := spheres_eq hp ok_zero r hr k hk
  have hl := regF_len hp r 0 (by omega)
  unfold dI.f
  rw [he, hs]
  simp only [Option.bind_some]
  rw [concat_eq _ (by rw [outs_flat]; omega) (by rw [fe]; omega) k (by rw [fe]; omega), outs_flat]
  rfl
theorem prime_dec (p : Int) : aq.f p = some (decide (Pr p)) := by
  rcases ej p with ⟨h, h2⟩ | ⟨h, h2⟩
  · rw [h, decide_eq_true (show Pr p from h2)]
  · rw [h, decide_eq_false (show ¬ Pr p from h2)]
def mvX (p : Int) (x : S59) (b : PM.Ball) : Option PM.Ball := PM.moveB p x.f0.f0 x.f0.f1 x.f1.f0 x.f1.f1 b
def allM (l : List S59) : Prop := ∀ x, x ∈ l → PM.isM x.f0.f0 x.f0.f1 x.f1.f0 x.f1.f1
def orbC (p : Int) (l : List S59) (r : Int) : Int := if Pr p then (if l.all mOk = true then (if (l.length : Int) < 1 ∨ (l.length : Int) > 6 then 2 else (if 0 ≤ r ∧ r ≤ 3 then 0 else 2)) else 1) else 1
theorem orbC0 {p r : Int} {l : List S59} (h : orbC p l r = 0) : Pr p ∧ allM l ∧ l.length ≤ 6 ∧ 0 ≤ r ∧ r ≤ 3 := by
  unfold orbC at h
  by_cases a : Pr p
  · rw [if_pos a] at h
    by_cases b : l.all mOk = true
    · rw [if_pos b] at h
      by_cases c : (l.length : Int) < 1 ∨ (l.length : Int) > 6
      · rw [if_pos c] at h; omega
      · rw [if_neg c] at h
        by_cases d : 0 ≤ r ∧ r ≤ 3
        · exact ⟨a, fun x hx => of_decide_eq_true (List.all_eq_true.mp b x hx), by omega, d⟩
        · rw [if_neg d] at h; omega
    · rw [if_neg b] at h; omega
  · rw [if_neg a] at h; omega
theorem regionCode_eq (p : Int) (l : List S59) (r : Int) (hl : l.length ≤ 1048576) : ∃ K, ∀ k, K ≤ k → cS.f k p l r = some (orbC p l r) := by
  obtain ⟨K, h⟩ := fB l (by omega)
  refine ⟨K, fun k hk => ?_⟩
  unfold cS.f cT.f dF.f orbC
  rw [isPrime_eq, prime_dec, h k hk]
  by_cases a : Pr p
  · rw [decide_eq_true a, if_pos a]
    simp only [Option.bind_some, if_true]
    by_cases b : l.all mOk = true
    · rw [if_pos b, if_pos b]
      by_cases c1 : (l.length : Int) < 1
      · rw [if_pos c1, if_pos (Or.inl c1)]; rfl
      · rw [if_neg c1]
        by_cases c2 : (l.length : Int) > 6
        · rw [if_pos c2, if_pos (Or.inr c2)]; rfl
        · rw [if_neg c2, if_neg (show ¬ ((l.length : Int) < 1 ∨ (l.length : Int) > 6) from fun z => z.elim c1 c2)]
          simp only [Option.bind_some, if_true]
          by_cases e : 0 ≤ r ∧ r ≤ 3
          · rw [if_pos e, if_pos e.1, decide_eq_true e.2]; rfl
          · rw [if_neg e]
            by_cases g : r ≥ 0
            · rw [if_pos g, decide_eq_false (by omega)]; rfl
            · rw [if_neg g]; rfl
    · rw [if_neg b, if_neg b]; rfl
  · rw [decide_eq_false a, if_neg a]; rfl
theorem l06Code_eq (p : Int) (l : List S59) (r : Int) (hl : l.length ≤ 1048576) : ∀ k, 1048580 ≤ k → ci.f k p l r = some (orbC p l r) := by
  intro k hk
  unfold ci.f orbC
  rw [prime_dec, l06Movers_eq l 6 (by omega) k (by omega), in_eq]
  by_cases a : Pr p
  · rw [decide_eq_true a, if_pos a]
    simp only [Option.bind_some, if_true]
    by_cases b : l.all mOk = true
    · rw [if_pos b, if_pos b]
      by_cases c : (l.length : Int) < 1 ∨ (l.length : Int) > 6
      · rw [if_pos c, if_pos c]; rfl
      · rw [if_neg c, if_neg c]
        simp only [if_true]
        by_cases e : 0 ≤ r ∧ r ≤ 3
        · rw [if_pos e, decide_eq_true e]; rfl
        · rw [if_neg e, decide_eq_false e]; rfl
    · rw [if_neg b, if_neg b]; rfl
  · rw [decide_eq_false a, if_neg a]; rfl
def fndB (a b c : Int) : List S43 → Int → Int
  | [], _ => -1
  | x :: l, i => if (a = x.f0 ∧ b = x.f1 ∧ c = x.f2) then i else fndB a b c l (i + 1)
theorem rdSn (l pre : List S43) (x : S43) : aD (pre ++ x :: l) ((pre.length : Nat) : Int) = x := by
  simp [aD]
theorem find_spec (a b c : Int) : ∀ (suf pre : List S43), pre.length + suf.length ≤ 1000000 → ∀ k, suf.length + 1 ≤ k → bc.l0 k (pre ++ suf) ((pre.length : Nat) : Int) a b c = some (fndB a b c suf ((pre.length : Nat) : Int)) := by
  intro suf
  induction suf with
  | nil =>
    intro pre h k hk
    obtain ⟨k, rfl⟩ : ∃ m, k = m + 1 := ⟨k - 1, by omega⟩
    simp only [bc.l0]
    rw [if_neg (by simp)]; rfl
  | cons x suf ih =>
    intro pre h k hk
    simp only [List.length_cons] at h hk
    obtain ⟨k, rfl⟩ : ∃ m, k = m + 1 := ⟨k - 1, by omega⟩
    simp only [bc.l0]
    rw [if_pos (by simp; omega), if_pos (by omega), rdSn suf pre x, w64 (n := (pre.length : Int) + 1) (by omega) (by omega)]
    have e1 : (pre ++ x :: suf) = ((pre ++ [x]) ++ suf) := by simp
    have e2 : (pre.length : Int) + 1 = (((pre ++ [x]).length : Nat) : Int) := by simp
    unfold fndB
    by_cases q : a = x.f0 ∧ b = x.f1 ∧ c = x.f2
    · rw [if_pos q, if_pos (by simp [q.1, q.2.1, q.2.2])]
    · rw [if_neg q, if_neg (by intro z; simp only [Bool.and_eq_true, beq_iff_eq] at z; exact q ⟨z.1.symm, z.2.1.symm, z.2.2.symm⟩), e1, e2]
      exact ih (pre ++ [x]) (by simp; omega) k (by omega)
theorem find_impl (a b c : Int) : ∀ (suf pre : List S43), pre.length + suf.length ≤ 1000000 → ∀ k, suf.length + 1 ≤ k → be.l0 k (pre ++ suf) ((pre ++ suf).length : Int) ((pre.length : Nat) : Int) a b c = some (fndB a b c suf ((pre.length : Nat) : Int)) := by
  intro suf
  induction suf with
  | nil =>
    intro pre h k hk
    obtain ⟨k, rfl⟩ : ∃ m, k = m + 1 := ⟨k - 1, by omega⟩
    simp only [be.l0]
    rw [if_neg (by simp)]; rfl
  | cons x suf ih =>
    intro pre h k hk
    simp only [List.length_cons] at h hk
    obtain ⟨k, rfl⟩ : ∃ m, k = m + 1 := ⟨k - 1, by omega⟩
    simp only [be.l0]
    rw [if_pos (by simp; omega), if_pos (by omega), if_pos (by simp; omega), rdSn suf pre x, w64 (n := (pre.length : Int) + 1) (by omega) (by omega)]
    have e1 : (pre ++ x :: suf) = ((pre ++ [x]) ++ suf) := by simp
    have e2 : (pre.length : Int) + 1 = (((pre ++ [x]).length : Nat) : Int) := by simp
    unfold fndB
    by_cases q : a = x.f0 ∧ b = x.f1 ∧ c = x.f2
    · rw [if_pos q, if_pos (by simp [q.1, q.2.1, q.2.2])]
    · rw [if_neg q, if_neg (by intro z; simp only [Bool.and_eq_true, beq_iff_eq] at z; exact q z), e1, e2]
      exact ih (pre ++ [x]) (by simp; omega) k (by omega)
theorem fnd_rng (a b c : Int) : ∀ (l : List S43) (i : Int), 0 ≤ i → fndB a b c l i < i + (l.length : Int) := by
  intro l
  induction l with
  | nil => intro i h; unfold fndB; simp; omega
  | cons x l ih =>
    intro i h
    unfold fndB
    by_cases q : a = x.f0 ∧ b = x.f1 ∧ c = x.f2
    · rw [if_pos q, List.length_cons]; omega
    · rw [if_neg q, List.length_cons]; have := ih (i + 1) (by omega); omega
def atB (p : Int) (B : List S43) (x : S59) (b : PM.Ball) : Int := match mvX p x b with
  | none => -1
  | some c => fndB c.lv c.top c.dn B 0
theorem at_rng (p : Int) (B : List S43) (x : S59) (b : PM.Ball) : atB p B x b < (B.length : Int) := by
  unfold atB
  cases mvX p x b with
  | none => simp only; omega
  | some c => simp only; have := fnd_rng c.lv c.top c.dn B 0 (by omega); omega
def fP (p : Int) (B : List S43) (b : PM.Ball) (i : Nat) : List S59 → (Nat → Nat) → (Nat → Nat)
  | [], g => g
  | x :: t, g => fP p B b i t (PM.stpF g i (atB p B x b))
def allF (p : Int) (B : List S43) (M : List S59) : List PM.Ball → Nat → (Nat → Nat) → (Nat → Nat)
  | [], _, g => g
  | b :: t, i, g => allF p B M t (i + 1) (fP p B b i M g)
theorem rowF_good (p : Int) (B : List S43) (b : PM.Ball) {i : Nat} (hi : i < B.length) : ∀ (M : List S59) (g : Nat → Nat), PM.GoodG B.length g → PM.GoodG B.length (fP p B b i M g) := by
  intro M
  induction M with
  | nil => exact fun g h => h
  | cons x M ih => exact fun g h => ih _ (PM.stp_good h hi (at_rng p B x b))
theorem allF_good (p : Int) (B : List S43) (M : List S59) : ∀ (L : List PM.Ball) (i : Nat) (g : Nat → Nat), i + L.length = B.length → PM.GoodG B.length g → PM.GoodG B.length (allF p B M L i g) := by
  intro L
  induction L with
  | nil => exact fun i g _ h => h
  | cons b L ih => exact fun i g e h => ih (i + 1) _ (by rw [List.length_cons] at e; omega) (rowF_good p B b (by rw [List.length_cons] at e; omega) M g h)
theorem dt {n j : Nat} (g : Nat → Nat) (h : j < n) : rd (PM.gl n g) ((j : Nat) : Int) = ((g j : Nat) : Int) := by
  unfold rd
  rw [Int.toNat_natCast, List.getD_eq_getElem?_getD, PM.gl_get g h]; rfl
theorem et {n : Nat} {f g : Nat → Nat} (h : ∀ j, j < n → f j = g j) : PM.gl n f = PM.gl n g := by
  unfold PM.gl
  refine List.map_congr_left fun j hj => ?_
  rw [h j (List.mem_range.mp hj)]
theorem gl_set (n : Nat) (f : Nat → Nat) (j v : Nat) : (PM.gl n f).set j ((v : Nat) : Int) = PM.gl n (fun t => if t = j then v else f t) := by
  refine List.ext_getElem? fun t => ?_
  by_cases ht : t < n
  · rw [PM.gl_get _ ht]
    by_cases e : j = t
    · subst e
      rw [List.getElem?_set_self (by rw [PM.gl_len]; exact ht), if_pos rfl]
    · rw [List.getElem?_set_ne e, PM.gl_get f ht, if_neg (fun z => e z.symm)]
  · rw [List.getElem?_eq_none (by rw [List.length_set, PM.gl_len]; omega), List.getElem?_eq_none (by rw [PM.gl_len]; omega)]
theorem gl_snoc (j : Nat) : PM.gl j (fun t => t) ++ [((j : Nat) : Int)] = PM.gl (j + 1) (fun t => t) := by
  unfold PM.gl; rw [List.range_succ, List.map_append]; rfl
def fK (g : Nat → Nat) (lo hi j : Nat) : Nat → Nat := fun t => if t < j then (if g t = hi then lo else g t) else g t
theorem mix_zero (n : Nat) (g : Nat → Nat) (lo hi : Nat) : PM.gl n (fK g lo hi 0) = PM.gl n g := et fun j _ => by unfold fK; rw [if_neg (by omega)]
theorem mix_end (n : Nat) (g : Nat → Nat) (lo hi : Nat) : PM.gl n (fK g lo hi n) = PM.gl n (fun t => if g t = hi then lo else g t) := et fun j hj => by unfold fK; rw [if_pos hj]
theorem mix_pos {n : Nat} {g : Nat → Nat} {lo hi j : Nat} (h : g j = hi) : (PM.gl n (fK g lo hi j)).set j ((lo : Nat) : Int) = PM.gl n (fK g lo hi (j + 1)) := by
  rw [gl_set]
  refine et fun t _ => ?_
  unfold fK
  by_cases e : t = j
  · subst e; rw [if_pos rfl, if_pos (by omega), if_pos h]
  · rw [if_neg e]
    by_cases q : t < j
    · rw [if_pos q, if_pos (show t < j + 1 by omega)]
    · rw [if_neg q, if_neg (show ¬ t < j + 1 by omega)]
theorem mix_neg {n : Nat} {g : Nat → Nat} {lo hi j : Nat} (h : ¬ g j = hi) : PM.gl n (fK g lo hi j) = PM.gl n (fK g lo hi (j + 1)) := by
  refine et fun t _ => ?_
  unfold fK
  by_cases e : t = j
  · subst e; rw [if_neg (by omega), if_pos (by omega), if_neg h]
  · by_cases q : t < j
    · rw [if_pos q, if_pos (show t < j + 1 by omega)]
    · rw [if_neg q, if_neg (show ¬ t < j + 1 by omega)]
theorem impl_l3 {n : Nat} (hn : n ≤ 100000) (p : Int) (M M' : List S59) (B B' : List S43) (g : Nat → Nat) (lo hi : Nat) (i nB i' nM m b0 b1 b2 : Int) : ∀ (d j k : Nat), j + d = n → aK.l3 (k + d + 1) p M B (PM.gl n (fK g lo hi j)) i ((lo : Nat) : Int) ((hi : Nat) : Int) B' nB i' M' nM m ((n : Nat) : Int) ((j : Nat) : Int) b0 b1 b2 = aK.l2 k p M B (PM.gl n (fun t => if g t = hi then lo else g t)) i B' nB i' M' nM (wrap64 (m + 1)) b0 b1 b2 := by
  intro d
  induction d with
  | zero =>
    intro j k e
    obtain rfl : j = n := by omega
    simp only [Nat.add_zero, aK.l3]
    rw [if_neg (by omega), mix_end]
  | succ d ih =>
    intro j k e
    have hj : j < n := by omega
    have ew : wrap64 (((j : Nat) : Int) + 1) = ((j + 1 : Nat) : Int) := by rw [w64 (by omega) (by omega)]; omega
    have er : rd (PM.gl n (fK g lo hi j)) ((j : Nat) : Int) = ((g j : Nat) : Int) := by rw [dt _ hj]; unfold fK; rw [if_neg (by omega)]
    rw [show k + (d + 1) + 1 = (k + d + 1) + 1 by omega]
    simp only [aK.l3]
    rw [if_pos (by omega), if_pos (by omega), if_pos (by rw [PM.gl_len]; omega), er, ew]
    by_cases c : g j = hi
    · rw [if_pos (by omega), Int.toNat_natCast, mix_pos c]
      exact ih (j + 1) k (by omega)
    · rw [if_neg (by omega), mix_neg c]
      exact ih (j + 1) k (by omega)
theorem spec_l3 {n : Nat} (hn : n ≤ 100000) (p : Int) (M : List S59) (B : List S43) (g : Nat → Nat) (lo hi : Nat) (i m : Int) : ∀ (d j k : Nat), j + d = n → aE.l3 (k + d + 1) p M B (PM.gl n (fK g lo hi j)) i m ((lo : Nat) : Int) ((hi : Nat) : Int) ((j : Nat) : Int) = aE.l2 k p M B (PM.gl n (fun t => if g t = hi then lo else g t)) i (wrap64 (m + 1)) := by
  intro d
  induction d with
  | zero =>
    intro j k e
    obtain rfl : j = n := by omega
    simp only [Nat.add_zero, aE.l3]
    rw [if_neg (by rw [PM.gl_len]; omega), mix_end]
  | succ d ih =>
    intro j k e
    have hj : j < n := by omega
    have ew : wrap64 (((j : Nat) : Int) + 1) = ((j + 1 : Nat) : Int) := by rw [w64 (by omega) (by omega)]; omega
    have er : rd (PM.gl n (fK g lo hi j)) ((j : Nat) : Int) = ((g j : Nat) : Int) := by rw [dt _ hj]; unfold fK; rw [if_neg (by omega)]
    rw [show k + (d + 1) + 1 = (k + d + 1) + 1 by omega]
    simp only [aE.l3]
    rw [if_pos (by rw [PM.gl_len]; omega), if_pos (by omega), er, ew]
    by_cases c : g j = hi
    · rw [if_pos (by omega), Int.toNat_natCast, mix_pos c]
      exact ih (j + 1) k (by omega)
    · rw [if_neg (by omega), mix_neg c]
      exact ih (j + 1) k (by omega)
theorem mn_nat (a b : Nat) : mn ((a : Nat) : Int) ((b : Nat) : Int) = ((min a b : Nat) : Int) := by unfold mn; omega
theorem mx_nat (a b : Nat) : mx ((a : Nat) : Int) ((b : Nat) : Int) = ((max a b : Nat) : Int) := by unfold mx; omega
theorem fU (g : Nat → Nat) (i : Nat) {q : Int} (h : q < 0) : PM.stpF g i q = g := by unfold PM.stpF; rw [if_pos h]
theorem stp_go (g : Nat → Nat) (i : Nat) {q : Int} (h : ¬ q < 0) : PM.stpF g i q = fun j => if g j = max (g i) (g q.toNat) then min (g i) (g q.toNat) else g j := by unfold PM.stpF; rw [if_neg h]
theorem gl_same {n : Nat} (g : Nat → Nat) (a : Nat) : PM.gl n (fun t => if g t = max a a then min a a else g t) = PM.gl n g := et fun t _ => by
  rw [Nat.max_self, Nat.min_self]
  by_cases e : g t = a
  · rw [if_pos e, e]
  · rw [if_neg e]
theorem fImpl (B : List S43) (hB : B.length ≤ 100000) (a b c : Int) : ∀ k, B.length + 1 ≤ k → be.f k B a b c = some (fndB a b c B 0) := by
  intro k hk
  have := find_impl a b c B [] (by simp; omega) k hk
  simpa [be.f] using this
theorem fSpec (B : List S43) (hB : B.length ≤ 100000) (a b c : Int) : ∀ k, B.length + 1 ≤ k → bc.f k B a b c = some (fndB a b c B 0) := by
  intro k hk
  have := find_spec a b c B [] (by simp; omega) k hk
  simpa [bc.f] using this
theorem rdMx (pre suf : List S59) (x : S59) : ai (pre ++ x :: suf) ((pre.length : Nat) : Int) = x := by
  simp [ai]
theorem impl_row {p : Int} (hp : Pr p) {b : PM.Ball} (hb : PM.Ok p b) (B : List S43) (hB : B.length ≤ 100000) {i : Nat} (hi : i < B.length) : ∀ (suf pre : List S59) (g : Nat → Nat), (∀ x, x ∈ suf → PM.isM x.f0.f0 x.f0.f1 x.f1.f0 x.f1.f1) → pre.length + suf.length ≤ 100000 → PM.GoodG B.length g → ∃ d, ∀ k, 13841387400 ≤ k → aK.l2 (k + d + 1) p (pre ++ suf) B (PM.gl B.length g) ((i : Nat) : Int) B ((B.length : Nat) : Int) ((i : Nat) : Int) (pre ++ suf) (((pre ++ suf).length : Nat) : Int) ((pre.length : Nat) : Int) b.lv b.top b.dn = aK.l1 k p (pre ++ suf) B (PM.gl B.length (fP p B b i suf g)) B ((B.length : Nat) : Int) (wrap64 (((i : Nat) : Int) + 1)) := by
  intro suf
  induction suf with
  | nil =>
    intro pre g _ _ _
    refine ⟨0, fun k _ => ?_⟩
    simp only [Nat.add_zero, aK.l2]
    rw [if_neg (by simp)]; rfl
  | cons x suf ih =>
    intro pre g hM hl hg
    have hx := hM x (by simp)
    rw [List.length_cons] at hl
    have hq := at_rng p B x b
    obtain ⟨d, hd⟩ := ih (pre ++ [x]) (PM.stpF g i (atB p B x b)) (fun y hy => hM y (by simp [hy])) (by simp; omega) (PM.stp_good hg hi hq)
    have e1 : pre ++ x :: suf = (pre ++ [x]) ++ suf := by simp
    have e2 : wrap64 (((pre.length : Nat) : Int) + 1) = (((pre ++ [x]).length : Nat) : Int) := by rw [w64 (by omega) (by omega)]; simp
    have er : ai (pre ++ x :: suf) ((pre.length : Nat) : Int) = x := rdMx pre suf x
    have hmv : mvX p x b = PM.moveB p x.f0.f0 x.f0.f1 x.f1.f0 x.f1.f1 ⟨b.lv, b.top, b.dn⟩ := rfl
    by_cases c : atB p B x b < 0
    · refine ⟨d + 2, fun k hk => ?_⟩
      rw [show k + (d + 2) + 1 = (k + d + 1 + 1) + 1 by omega]
      simp only [aK.l2]
      rw [if_pos (by simp; omega), if_pos (by omega), if_pos (by simp; omega), er, moveBall_eq hp hx hb _ (by omega), ← hmv]
      simp only [Option.bind_some]
      rw [fImpl B hB _ _ _ _ (by omega)]
      simp only [Option.bind_some]
      have hk2 := hd k hk
      rw [fU g i c] at hk2
      rw [← e1, ← e2] at hk2
      rw [show fP p B b i (x :: suf) g = fP p B b i suf (PM.stpF g i (atB p B x b)) from rfl, fU g i c]
      unfold atB at c
      cases em : mvX p x b with
      | none =>
        rw [show enc (none : Option PM.Ball) = (0, 0, 0, false) from rfl]
        dsimp only
        rw [if_neg (by simp)]
        simp only [aK.j3]
        rw [if_pos trivial]
        exact hk2
      | some y =>
        rw [em] at c
        simp only at c
        rw [show enc (some y) = (y.lv, y.top, y.dn, true) from rfl]
        dsimp only
        rw [if_pos rfl, decide_eq_true c]
        simp only [aK.j3]
        rw [if_pos trivial]
        exact hk2
    · refine ⟨d + B.length + 3, fun k hk => ?_⟩
      rw [show k + (d + B.length + 3) + 1 = (((k + d + 1) + B.length + 1) + 1) + 1 by omega]
      simp only [aK.l2]
      rw [if_pos (by simp; omega), if_pos (by omega), if_pos (by simp; omega), er, moveBall_eq hp hx hb _ (by omega), ← hmv]
      simp only [Option.bind_some]
      rw [fImpl B hB _ _ _ _ (by omega)]
      simp only [Option.bind_some]
      have hk2 := hd k hk
      rw [stp_go g i c] at hk2
      rw [← e1, ← e2] at hk2
      rw [show fP p B b i (x :: suf) g = fP p B b i suf (PM.stpF g i (atB p B x b)) from rfl, stp_go g i c]
      have hq0 : atB p B x b = ((atB p B x b).toNat : Int) := by omega
      have hq1 : (atB p B x b).toNat < B.length := by omega
      generalize hQ : (atB p B x b).toNat = Q at *
      unfold atB at c hq0
      cases em : mvX p x b with
      | none => rw [em] at c; simp only at c; omega
      | some y =>
        rw [em] at c hq0
        simp only at c hq0
        rw [show enc (some y) = (y.lv, y.top, y.dn, true) from rfl]
        dsimp only
        rw [if_pos rfl, decide_eq_false c]
        simp only [aK.j3]
        rw [if_neg (by simp), hq0, if_pos (by omega), if_pos (by rw [PM.gl_len]; omega), if_pos (by omega), if_pos (by rw [PM.gl_len]; omega), dt g hi, dt g hq1, mn_nat, mx_nat, PM.gl_len, ← mix_zero B.length g (min (g i) (g Q)) (max (g i) (g Q))]
        rw [show ((0 : Int)) = ((0 : Nat) : Int) from rfl, impl_l3 hB p _ _ B B g _ _ _ _ _ _ _ _ _ _ B.length 0 (k + d + 1) (by omega)]
        exact hk2
theorem spec_row {p : Int} (hp : Pr p) {b : PM.Ball} (hb : PM.Ok p b) (B : List S43) (hB : B.length ≤ 100000) {i : Nat} (hi : i < B.length) (hBi : aD B ((i : Nat) : Int) = enB b) : ∀ (suf pre : List S59) (g : Nat → Nat), (∀ x, x ∈ suf → PM.isM x.f0.f0 x.f0.f1 x.f1.f0 x.f1.f1) → pre.length + suf.length ≤ 100000 → PM.GoodG B.length g → ∃ d, ∀ k, 13841387400 ≤ k → aE.l2 (k + d + 1) p (pre ++ suf) B (PM.gl B.length g) ((i : Nat) : Int) ((pre.length : Nat) : Int) = aE.l1 k p (pre ++ suf) B (PM.gl B.length (fP p B b i suf g)) (wrap64 (((i : Nat) : Int) + 1)) := by
  intro suf
  induction suf with
  | nil =>
    intro pre g _ _ _
    refine ⟨0, fun k _ => ?_⟩
    simp only [Nat.add_zero, aE.l2]
    rw [if_neg (by simp)]; rfl
  | cons x suf ih =>
    intro pre g hM hl hg
    have hx := hM x (by simp)
    rw [List.length_cons] at hl
    have hq := at_rng p B x b
    obtain ⟨d, hd⟩ := ih (pre ++ [x]) (PM.stpF g i (atB p B x b)) (fun y hy => hM y (by simp [hy])) (by simp; omega) (PM.stp_good hg hi hq)
    have e1 : pre ++ x :: suf = (pre ++ [x]) ++ suf := by simp
    have e2 : wrap64 (((pre.length : Nat) : Int) + 1) = (((pre ++ [x]).length : Nat) : Int) := by rw [w64 (by omega) (by omega)]; simp
    have er : ai (pre ++ x :: suf) ((pre.length : Nat) : Int) = x := rdMx pre suf x
    have hmv : mvX p x b = PM.moveB p x.f0.f0 x.f0.f1 x.f1.f0 x.f1.f1 ⟨b.lv, b.top, b.dn⟩ := rfl
    have e3 : (enB b).f0 = b.lv ∧ (enB b).f1 = b.top ∧ (enB b).f2 = b.dn := ⟨rfl, rfl, rfl⟩
    by_cases c : atB p B x b < 0
    · refine ⟨d + 2, fun k hk => ?_⟩
      rw [show k + (d + 2) + 1 = (k + d + 1 + 1) + 1 by omega]
      simp only [aE.l2]
      rw [if_pos (by simp; omega), if_pos (by omega), if_pos (by omega), if_pos (by omega), er, hBi, e3.1, e3.2.1, e3.2.2, fR hp hx hb _ (by omega), ← hmv]
      simp only [Option.bind_some]
      rw [fSpec B hB _ _ _ _ (by omega)]
      simp only [Option.bind_some]
      have hk2 := hd k hk
      rw [fU g i c] at hk2
      rw [← e1, ← e2] at hk2
      rw [show fP p B b i (x :: suf) g = fP p B b i suf (PM.stpF g i (atB p B x b)) from rfl, fU g i c]
      unfold atB at c
      cases em : mvX p x b with
      | none =>
        rw [show enc (none : Option PM.Ball) = (0, 0, 0, false) from rfl]
        dsimp only
        rw [if_neg (by simp)]
        simp only [aE.j3]
        rw [if_pos trivial]
        exact hk2
      | some y =>
        rw [em] at c
        simp only at c
        rw [show enc (some y) = (y.lv, y.top, y.dn, true) from rfl]
        dsimp only
        rw [if_pos rfl, if_pos c]
        simp only [aE.j3]
        rw [if_pos trivial]
        exact hk2
    · have hq0 : atB p B x b = ((atB p B x b).toNat : Int) := by omega
      have hq1 : (atB p B x b).toNat < B.length := by omega
      rw [stp_go g i c] at hd
      rw [show fP p B b i (x :: suf) g = fP p B b i suf (PM.stpF g i (atB p B x b)) from rfl, stp_go g i c]
      generalize hQ : (atB p B x b).toNat = Q at *
      by_cases s : g Q = g i
      · refine ⟨d + 2, fun k hk => ?_⟩
        rw [show k + (d + 2) + 1 = (k + d + 1 + 1) + 1 by omega]
        simp only [aE.l2]
        rw [if_pos (by simp; omega), if_pos (by omega), if_pos (by omega), if_pos (by omega), er, hBi, e3.1, e3.2.1, e3.2.2, fR hp hx hb _ (by omega), ← hmv]
        simp only [Option.bind_some]
        rw [fSpec B hB _ _ _ _ (by omega)]
        simp only [Option.bind_some]
        have hk2 := hd k hk
        rw [← e1, ← e2] at hk2
        rw [s, gl_same] at hk2
        rw [s]
        unfold atB at c hq0
        cases em : mvX p x b with
        | none => rw [em] at c; simp only at c; omega
        | some y =>
          rw [em] at c hq0
          simp only at c hq0
          rw [show enc (some y) = (y.lv, y.top, y.dn, true) from rfl]
          dsimp only
          rw [if_pos rfl, if_neg c, hq0, if_pos (by omega), if_pos (by rw [PM.gl_len]; omega), if_pos (by rw [PM.gl_len]; omega), dt g hi, dt g hq1, s]
          simp only [aE.j3]
          rw [if_pos (by simp)]
          exact hk2
      · refine ⟨d + B.length + 3, fun k hk => ?_⟩
        rw [show k + (d + B.length + 3) + 1 = (((k + d + 1) + B.length + 1) + 1) + 1 by omega]
        simp only [aE.l2]
        rw [if_pos (by simp; omega), if_pos (by omega), if_pos (by omega), if_pos (by omega), er, hBi, e3.1, e3.2.1, e3.2.2, fR hp hx hb _ (by omega), ← hmv]
        simp only [Option.bind_some]
        rw [fSpec B hB _ _ _ _ (by omega)]
        simp only [Option.bind_some]
        have hk2 := hd k hk
        rw [← e1, ← e2] at hk2
        unfold atB at c hq0
        cases em : mvX p x b with
        | none => rw [em] at c; simp only at c; omega
        | some y =>
          rw [em] at c hq0
          simp only at c hq0
          rw [show enc (some y) = (y.lv, y.top, y.dn, true) from rfl]
          dsimp only
          rw [if_pos rfl, if_neg c, hq0, if_pos (by omega), if_pos (by rw [PM.gl_len]; omega), if_pos (by rw [PM.gl_len]; omega), dt g hi, dt g hq1]
          simp only [aE.j3]
          rw [if_neg (by simp; omega), if_pos (by omega), if_pos (by rw [PM.gl_len]; omega), if_pos (by omega), if_pos (by rw [PM.gl_len]; omega), dt g hi, dt g hq1, mn_nat, mx_nat, Nat.min_comm (g Q), Nat.max_comm (g Q), ← mix_zero B.length g (min (g i) (g Q)) (max (g i) (g Q))]
          rw [show ((0 : Int)) = ((0 : Nat) : Int) from rfl, spec_l3 hB p _ B g _ _ _ _ B.length 0 (k + d + 1) (by omega)]
          exact hk2
theorem rdBx (pre suf : List PM.Ball) (b : PM.Ball) (B : List S43) (e : B = (pre ++ b :: suf).map enB) : aD B ((pre.length : Nat) : Int) = enB b := by
  subst e
  simp [aD]
theorem impl_all {p : Int} (hp : Pr p) (M : List S59) (hM : allM M) (hMl : M.length ≤ 100000) (B : List S43) (hB : B.length ≤ 100000) : ∀ (suf pre : List PM.Ball) (g : Nat → Nat), B = (pre ++ suf).map enB → (∀ x, x ∈ suf → PM.Ok p x) → PM.GoodG B.length g → ∃ d, ∀ k, 13841387400 ≤ k → aK.l1 (k + d + 1) p M B (PM.gl B.length g) B ((B.length : Nat) : Int) ((pre.length : Nat) : Int) = aK.l4 k [] (List.replicate B.length 0) (PM.gl B.length (allF p B M suf pre.length g)) ((B.length : Nat) : Int) 0 := by
  intro suf
  induction suf with
  | nil =>
    intro pre g e _ _
    have hl : B.length = pre.length := by rw [e]; simp
    refine ⟨0, fun k _ => ?_⟩
    simp only [Nat.add_zero, aK.l1]
    rw [if_neg (by omega), if_pos (by omega), if_pos (by omega), PM.gl_len, Int.toNat_natCast]
    rfl
  | cons b suf ih =>
    intro pre g e hO hg
    have hl : B.length = pre.length + (suf.length + 1) := by rw [e]; simp
    have hi : pre.length < B.length := by omega
    obtain ⟨d1, h1⟩ := impl_row hp (hO b (by simp)) B hB hi M [] g hM (by simpa using hMl) hg
    obtain ⟨d2, h2⟩ := ih (pre ++ [b]) (fP p B b pre.length M g) (by rw [e]; simp) (fun x hx => hO x (by simp [hx])) (rowF_good p B b hi M g hg)
    refine ⟨d1 + d2 + 2, fun k hk => ?_⟩
    rw [show k + (d1 + d2 + 2) + 1 = ((k + d2 + 1) + d1 + 1) + 1 by omega]
    simp only [aK.l1]
    rw [if_pos (by omega), if_pos (by omega), if_pos (by omega), rdBx pre suf b B e]
    have h3 := h1 (k + d2 + 1) (by omega)
    simp only [List.nil_append, List.length_nil] at h3
    rw [show (((0 : Nat)) : Int) = 0 from rfl] at h3
    rw [show (enB b).f0 = b.lv from rfl, show (enB b).f1 = b.top from rfl, show (enB b).f2 = b.dn from rfl, h3, w64 (by omega) (by omega)]
    have h4 := h2 k hk
    rw [List.length_append, List.length_singleton] at h4
    rw [show ((pre.length : Nat) : Int) + 1 = ((pre.length + 1 : Nat) : Int) by omega, h4]
    rfl
theorem spec_all {p : Int} (hp : Pr p) (M : List S59) (hM : allM M) (hMl : M.length ≤ 100000) (B : List S43) (hB : B.length ≤ 100000) : ∀ (suf pre : List PM.Ball) (g : Nat → Nat), B = (pre ++ suf).map enB → (∀ x, x ∈ suf → PM.Ok p x) → PM.GoodG B.length g → ∃ d, ∀ k, 13841387400 ≤ k → aE.l1 (k + d + 1) p M B (PM.gl B.length g) ((pre.length : Nat) : Int) = some (PM.gl B.length (allF p B M suf pre.length g)) := by
  intro suf
  induction suf with
  | nil =>
    intro pre g e _ _
    have hl : B.length = pre.length := by rw [e]; simp
    refine ⟨0, fun k _ => ?_⟩
    simp only [Nat.add_zero, aE.l1]
    rw [if_neg (by omega)]
    rfl
  | cons b suf ih =>
    intro pre g e hO hg
    have hl : B.length = pre.length + (suf.length + 1) := by rw [e]; simp
    have hi : pre.length < B.length := by omega
    obtain ⟨d1, h1⟩ := spec_row hp (hO b (by simp)) B hB hi (rdBx pre suf b B e) M [] g hM (by simpa using hMl) hg
    obtain ⟨d2, h2⟩ := ih (pre ++ [b]) (fP p B b pre.length M g) (by rw [e]; simp) (fun x hx => hO x (by simp [hx])) (rowF_good p B b hi M g hg)
    refine ⟨d1 + d2 + 2, fun k hk => ?_⟩
    rw [show k + (d1 + d2 + 2) + 1 = ((k + d2 + 1) + d1 + 1) + 1 by omega]
    simp only [aE.l1]
    rw [if_pos (by omega)]
    have h3 := h1 (k + d2 + 1) (by omega)
    simp only [List.nil_append, List.length_nil] at h3
    rw [show (((0 : Nat)) : Int) = 0 from rfl] at h3
    rw [h3, w64 (by omega) (by omega)]
    have h4 := h2 k hk
    rw [List.length_append, List.length_singleton] at h4
    rw [show ((pre.length : Nat) : Int) + 1 = ((pre.length + 1 : Nat) : Int) by omega, h4]
    rfl
theorem impl_init {n : Nat} (hn : n ≤ 100000) (p : Int) (M : List S59) (B : List S43) : ∀ (d j k : Nat), j + d = n → aK.l0 (k + d + 1) p M B (PM.gl j (fun t => t)) ((n : Nat) : Int) ((j : Nat) : Int) = aK.l1 k p M B (PM.gl n (fun t => t)) B ((B.length : Nat) : Int) 0 := by
  intro d
  induction d with
  | zero =>
    intro j k e
    obtain rfl : j = n := by omega
    simp only [Nat.add_zero, aK.l0]
    rw [if_neg (by omega)]
  | succ d ih =>
    intro j k e
    rw [show k + (d + 1) + 1 = (k + d + 1) + 1 by omega]
    simp only [aK.l0]
    rw [if_pos (by omega), if_pos (by rw [PM.gl_len]; omega), gl_snoc, w64 (by omega) (by omega)]
    exact ih (j + 1) k (by omega)
theorem spec_init (p : Int) (M : List S59) (B : List S43) (hn : B.length ≤ 100000) : ∀ (d j k : Nat), j + d = B.length → aE.l0 (k + d + 1) p M B (PM.gl j (fun t => t)) ((j : Nat) : Int) = aE.l1 k p M B (PM.gl B.length (fun t => t)) 0 := by
  intro d
  induction d with
  | zero =>
    intro j k e
    obtain rfl : j = B.length := by omega
    simp only [Nat.add_zero, aE.l0]
    rw [if_neg (by omega)]
  | succ d ih =>
    intro j k e
    rw [show k + (d + 1) + 1 = (k + d + 1) + 1 by omega]
    simp only [aE.l0]
    rw [if_pos (by omega), if_pos (by rw [PM.gl_len]; omega), gl_snoc, w64 (by omega) (by omega)]
    exact ih (j + 1) k (by omega)
theorem eh (l : List Int) (i j : Nat) (v : Int) : rd (l.set i v) ((j : Nat) : Int) = if i = j ∧ i < l.length then v else rd l ((j : Nat) : Int) := by
  unfold rd
  rw [Int.toNat_natCast, List.getD_eq_getElem?_getD, List.getD_eq_getElem?_getD]
  by_cases e : i = j
  · subst e
    by_cases h : i < l.length
    · rw [List.getElem?_set_self h, if_pos ⟨rfl, h⟩]; rfl
    · rw [if_neg (fun z => h z.2), List.getElem?_eq_none (by rw [List.length_set]; omega), List.getElem?_eq_none (by omega)]
  · rw [List.getElem?_set_ne e, if_neg (fun z => e z.1)]
theorem impl_l4 {n : Nat} (hn : n ≤ 100000) {g : Nat → Nat} (hg : PM.GoodG n g) : ∀ (d i : Nat) (num : List Int), i + d = n → num.length = n → (∀ j, j < i → rd num ((j : Nat) : Int) = ((PM.rk g (g j) : Nat) : Int)) → ∃ num', (num'.length = n ∧ ∀ j, j < n → rd num' ((j : Nat) : Int) = ((PM.rk g (g j) : Nat) : Int)) ∧ ∀ k, aK.l4 (k + d + 1) (PM.out g i) num (PM.gl n g) ((n : Nat) : Int) ((i : Nat) : Int) = some (PM.out g n, num') := by
  intro d
  induction d with
  | zero =>
    intro i num e hl hN
    obtain rfl : i = n := by omega
    refine ⟨num, ⟨hl, hN⟩, fun k => ?_⟩
    simp only [Nat.add_zero, aK.l4]
    rw [if_neg (by omega)]
  | succ d ih =>
    intro i num e hl hN
    have hi : i < n := by omega
    have hlo := PM.lead_le g i
    have hol := PM.out_len g i
    obtain ⟨h1, h2⟩ := hg i hi
    have ew : wrap64 (((i : Nat) : Int) + 1) = ((i + 1 : Nat) : Int) := by rw [w64 (by omega) (by omega)]; omega
    by_cases c : g i = i
    · have y1 : rd ((num.set i (((PM.out g i).length : Nat) : Int)).set i (((PM.out g i).length : Nat) : Int)) ((i : Nat) : Int) = (((PM.out g i).length : Nat) : Int) := by
        rw [eh, if_pos ⟨rfl, by rw [List.length_set]; omega⟩]
      have y0 : rd (num.set i (((PM.out g i).length : Nat) : Int)) ((i : Nat) : Int) = (((PM.out g i).length : Nat) : Int) := by
        rw [eh, if_pos ⟨rfl, by omega⟩]
      have z1 : bE (PM.out g i ++ [[]]) (((PM.out g i).length : Nat) : Int) = [] := by
        unfold bE; simp
      obtain ⟨num', hq', hn'⟩ := ih (i + 1) ((num.set i (((PM.out g i).length : Nat) : Int)).set i (((PM.out g i).length : Nat) : Int)) (by omega) (by simpa using hl) (fun j hj => by
        by_cases q : i = j
        · subst q
          rw [y1, c]; unfold PM.rk; rw [hol]
        · rw [eh, if_neg (fun z => q z.1), eh, if_neg (fun z => q z.1)]
          exact hN j (by omega))
      refine ⟨num', hq', fun k => ?_⟩
      rw [show k + (d + 1) + 1 = (k + d + 1) + 1 by omega]
      simp only [aK.l4]
      rw [if_pos (by omega), if_pos (by omega), if_pos (by rw [PM.gl_len]; omega), dt g hi, c, if_pos rfl, if_pos (by omega), Int.toNat_natCast]
      simp only [Option.bind_some]
      rw [if_pos (by omega), if_pos (by omega), if_pos (by omega)]
      rw [y0, y1, if_pos (by omega), if_pos (by simp; omega), z1, if_pos (by simp), Int.toNat_natCast, ew]
      have h9 := hn' k
      rw [PM.out_new hg hi c] at h9
      have e9 : (PM.out g i ++ [[]]).set (PM.out g i).length (([] : List Int) ++ [((i : Nat) : Int)]) = PM.out g i ++ [[((i : Nat) : Int)]] := by
        rw [List.set_append_right _ _ (Nat.le_refl _), Nat.sub_self]; rfl
      rw [e9]
      exact h9
    · obtain ⟨o1, o2, o3⟩ := PM.out_old hg hi c
      have hlt : g i < i := by omega
      have r1 : rd num ((g i : Nat) : Int) = ((PM.rk g (g i) : Nat) : Int) := by rw [hN (g i) hlt, h2]
      have y1 : rd (num.set i ((PM.rk g (g i) : Nat) : Int)) ((i : Nat) : Int) = ((PM.rk g (g i) : Nat) : Int) := by
        rw [eh, if_pos ⟨rfl, by omega⟩]
      have z1 : bE (PM.out g i) ((PM.rk g (g i) : Nat) : Int) = (PM.out g i).getD (PM.rk g (g i)) [] := by
        unfold bE; rw [Int.toNat_natCast]
      obtain ⟨num', hq', hn'⟩ := ih (i + 1) (num.set i ((PM.rk g (g i) : Nat) : Int)) (by omega) (by simpa using hl) (fun j hj => by
        by_cases q : i = j
        · subst q; rw [y1]
        · rw [eh, if_neg (fun z => q z.1)]
          exact hN j (by omega))
      refine ⟨num', hq', fun k => ?_⟩
      rw [show k + (d + 1) + 1 = (k + d + 1) + 1 by omega]
      simp only [aK.l4]
      rw [if_pos (by omega), if_pos (by omega), if_pos (by rw [PM.gl_len]; omega), dt g hi, if_neg (by omega), if_pos (by omega), if_pos (by omega), if_pos (by omega), Int.toNat_natCast, r1]
      simp only [Option.bind_some]
      rw [y1, if_pos (by omega), if_pos (by omega), z1, if_pos (by omega), Int.toNat_natCast, ew, ← o1]
      exact hn' k
theorem spec_own {n : Nat} (hn : n ≤ 100000) (g : Nat → Nat) (out : List (List Int)) (i : Nat) (ho : out.length ≤ n) (hi : i < n) : ∀ (d j k : Nat), j + d = n → aW.l1 (k + d + 1) (PM.gl n g) out ((i : Nat) : Int) (PM.cls g i j) ((j : Nat) : Int) = aW.l0 k (PM.gl n g) (out ++ [PM.cls g i n]) (((i + 1 : Nat)) : Int) := by
  intro d
  induction d with
  | zero =>
    intro j k e
    obtain rfl : j = n := by omega
    have ew : wrap64 (((i : Nat) : Int) + 1) = ((i + 1 : Nat) : Int) := by rw [w64 (by omega) (by omega)]; omega
    simp only [Nat.add_zero, aW.l1]
    rw [if_neg (by rw [PM.gl_len]; omega), if_pos (by omega), ew]
  | succ d ih =>
    intro j k e
    have hj : j < n := by omega
    have hcl := PM.cls_le g i j
    have ew : wrap64 (((j : Nat) : Int) + 1) = ((j + 1 : Nat) : Int) := by rw [w64 (by omega) (by omega)]; omega
    rw [show k + (d + 1) + 1 = (k + d + 1) + 1 by omega]
    simp only [aW.l1]
    rw [if_pos (by rw [PM.gl_len]; omega), if_pos (by omega), dt g hj, ew]
    have := ih (j + 1) k (by omega)
    rw [PM.cls_succ] at this
    by_cases c : g j = i
    · rw [if_pos (by omega), if_pos (by omega)]
      rw [if_pos c] at this
      exact this
    · rw [if_neg (by omega)]
      rw [if_neg c, List.append_nil] at this
      exact this
theorem spec_cls {n : Nat} (hn : n ≤ 100000) {g : Nat → Nat} (hg : PM.GoodG n g) : ∀ (d i : Nat), i + d = n → ∃ e, ∀ k, aW.l0 (k + e + 1) (PM.gl n g) ((PM.lead g i).map fun m => PM.cls g m n) ((i : Nat) : Int) = some (PM.out g n) := by
  intro d
  induction d with
  | zero =>
    intro i e
    obtain rfl : i = n := by omega
    refine ⟨0, fun k => ?_⟩
    simp only [Nat.add_zero, aW.l0]
    rw [if_neg (by rw [PM.gl_len]; omega)]
    rfl
  | succ d ih =>
    intro i e
    have hi : i < n := by omega
    have hlo := PM.lead_le g i
    have ew : wrap64 (((i : Nat) : Int) + 1) = ((i + 1 : Nat) : Int) := by rw [w64 (by omega) (by omega)]; omega
    obtain ⟨e1, h1⟩ := ih (i + 1) (by omega)
    rw [PM.lead_succ] at h1
    by_cases c : g i = i
    · rw [if_pos c, List.map_append, List.map_singleton] at h1
      refine ⟨e1 + (n - i) + 2, fun k => ?_⟩
      rw [show k + (e1 + (n - i) + 2) + 1 = ((k + e1 + 1) + (n - i) + 1) + 1 by omega]
      simp only [aW.l0]
      rw [if_pos (by rw [PM.gl_len]; omega), if_pos (by omega), dt g hi, if_pos (by omega)]
      have := spec_own hn g ((PM.lead g i).map fun m => PM.cls g m n) i (by rw [List.length_map]; omega) hi (n - i) i (k + e1 + 1) (by omega)
      rw [PM.cls_self hg hi] at this
      rw [this]
      exact h1 k
    · rw [if_neg c, List.append_nil] at h1
      refine ⟨e1 + 1, fun k => ?_⟩
      rw [show k + (e1 + 1) + 1 = (k + e1 + 1) + 1 by omega]
      simp only [aW.l0]
      rw [if_pos (by rw [PM.gl_len]; omega), if_pos (by omega), dt g hi, if_neg (by omega), ew]
      exact h1 k
theorem eqRows (R : List (List Int)) (h1 : R.length ≤ 1000000000) : (∀ x, x ∈ R → x.length ≤ 1000000) → ∃ K, ∀ k, K ≤ k → ap.f k R R = some true := by
  intro h2
  have go : ∀ (suf pre : List (List Int)), R = pre ++ suf → ∃ K, ∀ k, K ≤ k → ap.l0 k R R ((pre.length : Nat) : Int) = some true := by
    intro suf
    induction suf with
    | nil =>
      intro pre e
      refine ⟨1, fun k hk => ?_⟩
      obtain ⟨k, rfl⟩ : ∃ m, k = m + 1 := ⟨k - 1, by omega⟩
      have : R.length = pre.length := by rw [e]; simp
      simp only [ap.l0]
      rw [if_neg (by omega)]
    | cons x suf ih =>
      intro pre e
      have hl : R.length = pre.length + (suf.length + 1) := by rw [e]; simp
      obtain ⟨K1, hK1⟩ := eqInts x (by have := h2 x (by rw [e]; simp); omega)
      obtain ⟨K2, hK2⟩ := ih (pre ++ [x]) (by rw [e]; simp)
      have er : bE R ((pre.length : Nat) : Int) = x := by unfold bE; rw [e]; simp
      refine ⟨K1 + K2 + 1, fun k hk => ?_⟩
      obtain ⟨k, rfl⟩ : ∃ m, k = m + 1 := ⟨k - 1, by omega⟩
      simp only [ap.l0]
      rw [if_pos (by omega), if_pos (by omega), if_pos (by omega), er, hK1 k (by omega)]
      simp only [Option.bind_some, if_true]
      rw [w64 (by omega) (by omega)]
      have := hK2 k (by omega)
      rw [List.length_append, List.length_singleton] at this
      rw [show ((pre.length : Nat) : Int) + 1 = ((pre.length + 1 : Nat) : Int) by omega]
      exact this
  obtain ⟨K, hK⟩ := go R [] rfl
  refine ⟨K, fun k hk => ?_⟩
  unfold ap.f
  rw [if_pos rfl]
  exact hK k hk
def dz (a : Int) (n : Nat) : List Int := (List.range n).map fun j => a + ((j : Nat) : Int)
theorem eG (a : Int) (n : Nat) : (dz a n).length = n := by simp [dz]
theorem iota_succ (a : Int) (n : Nat) : dz a (n + 1) = dz a n ++ [a + ((n : Nat) : Int)] := by
  unfold dz; rw [List.range_succ, List.map_append]; rfl
theorem iota_get (a : Int) {n j : Nat} (h : j < n) : rd (dz a n) ((j : Nat) : Int) = a + ((j : Nat) : Int) := by
  unfold rd dz
  rw [Int.toNat_natCast, List.getD_eq_getElem?_getD, List.getElem?_map, List.getElem?_range h]; rfl
theorem mark_go {a : Int} (h0 : 0 ≤ a) (ha : a ≤ 1000000000000000) : ∀ (suf : List Int) (j k : Nat), j + suf.length ≤ 1000000 → suf.length < k → ar.l0 k (dz a j ++ suf) (a + ((j : Nat) : Int)) ((j : Nat) : Int) = some (a + ((j + suf.length : Nat) : Int), dz a (j + suf.length)) := by
  intro suf
  induction suf with
  | nil =>
    intro j k _ hk
    obtain ⟨k, rfl⟩ : ∃ m, k = m + 1 := ⟨k - 1, by omega⟩
    simp only [ar.l0]
    rw [if_neg (by rw [List.append_nil, eG]; omega)]
    simp
  | cons x suf ih =>
    intro j k hl hk
    rw [List.length_cons] at hl hk
    obtain ⟨k, rfl⟩ : ∃ m, k = m + 1 := ⟨k - 1, by omega⟩
    simp only [ar.l0]
    rw [if_pos (by rw [List.length_append, eG, List.length_cons]; omega), if_pos (by omega), Int.toNat_natCast, w64 (by omega) (by omega), w64 (by omega) (by omega)]
    have e1 : (dz a j ++ x :: suf).set j (a + ((j : Nat) : Int)) = dz a (j + 1) ++ suf := by
      rw [List.set_append_right _ _ (by rw [eG]; exact Nat.le_refl _), eG, Nat.sub_self, iota_succ, List.append_assoc]; rfl
    have := ih (j + 1) k (by omega) (by omega)
    rw [e1, show a + ((j : Nat) : Int) + 1 = a + ((j + 1 : Nat) : Int) by omega, show ((j : Nat) : Int) + 1 = ((j + 1 : Nat) : Int) by omega, this, List.length_cons, show j + 1 + suf.length = j + (suf.length + 1) by omega]
theorem held_go {a : Int} (h0 : 0 ≤ a) (ha : a ≤ 1000000000000000) {n : Nat} (hn : n ≤ 1000000) : ∀ (d j k : Nat), j + d = n → d < k → ay.l0 k (dz a n) (a + ((j : Nat) : Int)) ((j : Nat) : Int) = some (a + ((n : Nat) : Int)) := by
  intro d
  induction d with
  | zero =>
    intro j k e hk
    obtain ⟨k, rfl⟩ : ∃ m, k = m + 1 := ⟨k - 1, by omega⟩
    obtain rfl : j = n := by omega
    simp only [ay.l0]
    rw [if_neg (by rw [eG]; omega)]
  | succ d ih =>
    intro j k e hk
    obtain ⟨k, rfl⟩ : ∃ m, k = m + 1 := ⟨k - 1, by omega⟩
    simp only [ay.l0]
    rw [if_pos (by rw [eG]; omega), if_pos (by omega), iota_get a (by omega), if_pos rfl, w64 (by omega) (by omega), w64 (by omega) (by omega)]
    rw [show a + ((j : Nat) : Int) + 1 = a + ((j + 1 : Nat) : Int) by omega, show ((j : Nat) : Int) + 1 = ((j + 1 : Nat) : Int) by omega]
    exact ih (j + 1) k (by omega) (by omega)
def tot : List (List Int) → Nat
  | [] => 0
  | x :: t => x.length + tot t
def mkR : Int → List (List Int) → List (List Int)
  | _, [] => []
  | a, x :: t => dz a x.length :: mkR (a + ((x.length : Nat) : Int)) t
theorem tot_le : ∀ (R : List (List Int)), (∀ x, x ∈ R → x.length ≤ 100000) → tot R ≤ 100000 * R.length := by
  intro R
  induction R with
  | nil => intro _; simp [tot]
  | cons x R ih =>
    intro h
    have h1 := h x (by simp)
    have h2 := ih (fun y hy => h y (by simp [hy]))
    unfold tot; rw [List.length_cons]; omega
theorem markRows_go : ∀ (suf pre : List (List Int)) (a : Int), 0 ≤ a → a + (tot suf : Int) ≤ 1000000000000000 → (∀ x, x ∈ suf → x.length ≤ 100000) → pre.length + suf.length ≤ 1000000000 → ∃ K, ∀ k, K ≤ k → bK.l0 k (pre ++ suf) a ((pre.length : Nat) : Int) = some (a + ((tot suf : Nat) : Int), pre ++ mkR a suf) := by
  intro suf
  induction suf with
  | nil =>
    intro pre a _ _ _ _
    refine ⟨1, fun k hk => ?_⟩
    obtain ⟨k, rfl⟩ : ∃ m, k = m + 1 := ⟨k - 1, by omega⟩
    simp only [bK.l0]
    rw [if_neg (by simp)]
    simp [tot, mkR]
  | cons x suf ih =>
    intro pre a h0 ha hx hl
    rw [List.length_cons] at hl
    have hxl := hx x (by simp)
    unfold tot at ha
    obtain ⟨K, hK⟩ := ih (pre ++ [dz a x.length]) (a + ((x.length : Nat) : Int)) (by omega) (by omega) (fun y hy => hx y (by simp [hy])) (by simp; omega)
    refine ⟨K + x.length + 2, fun k hk => ?_⟩
    obtain ⟨k, rfl⟩ : ∃ m, k = m + 1 := ⟨k - 1, by omega⟩
    have er : bE (pre ++ x :: suf) ((pre.length : Nat) : Int) = x := by unfold bE; simp
    have hm : ar.f k x a = some (a + ((x.length : Nat) : Int), dz a x.length) := by
      have := mark_go h0 (by omega) x 0 k (by omega) (by omega)
      simpa [dz, ar.f] using this
    simp only [bK.l0]
    rw [if_pos (by simp; omega), if_pos (by omega), er, hm]
    simp only [Option.bind_some]
    have es : (pre ++ x :: suf).set ((pre.length : Nat) : Int).toNat (dz a x.length) = (pre ++ [dz a x.length]) ++ suf := by
      rw [Int.toNat_natCast, List.set_append_right _ _ (Nat.le_refl _), Nat.sub_self]; simp
    have h9 := hK k (by omega)
    rw [List.length_append, List.length_singleton] at h9
    rw [es, w64 (by omega) (by omega), show ((pre.length : Nat) : Int) + 1 = ((pre.length + 1 : Nat) : Int) by omega, h9]
    rw [show tot (x :: suf) = x.length + tot suf from rfl, show mkR a (x :: suf) = dz a x.length :: mkR (a + ((x.length : Nat) : Int)) suf from rfl]
    simp only [List.append_assoc, List.singleton_append]
    rw [show a + ((x.length : Nat) : Int) + ((tot suf : Nat) : Int) = a + ((x.length + tot suf : Nat) : Int) by omega]
theorem heldRows_go : ∀ (suf pre : List (List Int)) (a : Int), 0 ≤ a → a + (tot suf : Int) ≤ 1000000000000000 → (∀ x, x ∈ suf → x.length ≤ 100000) → pre.length + suf.length ≤ 1000000000 → ∃ K, ∀ k, K ≤ k → bC.l0 k (pre ++ mkR a suf) a ((pre.length : Nat) : Int) = some (a + ((tot suf : Nat) : Int)) := by
  intro suf
  induction suf with
  | nil =>
    intro pre a _ _ _ _
    refine ⟨1, fun k hk => ?_⟩
    obtain ⟨k, rfl⟩ : ∃ m, k = m + 1 := ⟨k - 1, by omega⟩
    simp only [bC.l0]
    rw [if_neg (by simp [mkR])]
    simp [tot]
  | cons x suf ih =>
    intro pre a h0 ha hx hl
    rw [List.length_cons] at hl
    have hxl := hx x (by simp)
    unfold tot at ha
    obtain ⟨K, hK⟩ := ih (pre ++ [dz a x.length]) (a + ((x.length : Nat) : Int)) (by omega) (by omega) (fun y hy => hx y (by simp [hy])) (by simp; omega)
    refine ⟨K + x.length + 2, fun k hk => ?_⟩
    obtain ⟨k, rfl⟩ : ∃ m, k = m + 1 := ⟨k - 1, by omega⟩
    have er : bE (pre ++ mkR a (x :: suf)) ((pre.length : Nat) : Int) = dz a x.length := by unfold bE; simp [mkR]
    have hm : ay.f k (dz a x.length) a = some (a + ((x.length : Nat) : Int)) := by
      have := held_go h0 (by omega) (n := x.length) (by omega) x.length 0 k (by omega) (by omega)
      simpa [ay.f] using this
    simp only [bC.l0]
    rw [if_pos (by simp [mkR]; omega), if_pos (by omega), er, hm]
    simp only [Option.bind_some]
    have h9 := hK k (by omega)
    rw [List.length_append, List.length_singleton] at h9
    rw [if_neg (by omega), w64 (by omega) (by omega), show ((pre.length : Nat) : Int) + 1 = ((pre.length + 1 : Nat) : Int) by omega]
    rw [show tot (x :: suf) = x.length + tot suf from rfl, show mkR a (x :: suf) = dz a x.length :: mkR (a + ((x.length : Nat) : Int)) suf from rfl]
    simp only [List.append_assoc, List.singleton_append] at h9
    rw [h9, show a + ((x.length : Nat) : Int) + ((tot suf : Nat) : Int) = a + ((x.length + tot suf : Nat) : Int) by omega]
theorem markRows (R : List (List Int)) (h1 : R.length ≤ 1000000000) (h2 : ∀ x, x ∈ R → x.length ≤ 100000) : ∃ R' : List (List Int), (∃ K, ∀ k, K ≤ k → bK.f k R 1 = some (1 + ((tot R : Nat) : Int), R')) ∧ ∃ K, ∀ k, K ≤ k → bC.f k R' 1 = some (1 + ((tot R : Nat) : Int)) := by
  have ht := tot_le R h2
  obtain ⟨K1, hK1⟩ := markRows_go R [] 1 (by omega) (by omega) h2 (by simp; omega)
  obtain ⟨K2, hK2⟩ := heldRows_go R [] 1 (by omega) (by omega) h2 (by simp; omega)
  exact ⟨mkR 1 R, ⟨K1, fun k hk => hK1 k hk⟩, ⟨K2, fun k hk => hK2 k hk⟩⟩
theorem lt_uniq {α : Type} {lt : α → α → Prop} (hirr : ∀ x, ¬ lt x x) (hasy : ∀ x y, lt x y → ¬ lt y x) {a b : List α} (ha : a.Pairwise lt) (hb : b.Pairwise lt) (hm : ∀ x, x ∈ a ↔ x ∈ b) : a = b := by
  have na : a.Nodup := ha.imp (fun {x y} (h : lt x y) (e : x = y) => hirr y (by rw [e] at h; exact h))
  have nb : b.Nodup := hb.imp (fun {x y} (h : lt x y) (e : x = y) => hirr y (by rw [e] at h; exact h))
  exact ((List.perm_ext_iff_of_nodup na nb).2 hm).eq_of_pairwise (fun x y _ _ h1 h2 => absurd h2 (hasy x y h1)) ha hb
theorem cd_lt : ∀ (l : List (List Int)) (q : List Int), (∀ y, y ∈ l → ¬ au.lexc y q < 0) → l.Pairwise (fun x y => ¬ au.lexc y x < 0) → (au.cd q l).Pairwise (fun x y => au.lexc x y < 0) ∧ (∀ y, y ∈ au.cd q l → au.lexc q y < 0) ∧ ∀ y, y ∈ q :: au.cd q l ↔ y ∈ q :: l := by
  intro l
  induction l with
  | nil => intro q _ _; exact ⟨List.Pairwise.nil, (fun y h => by cases h), fun y => Iff.rfl⟩
  | cons x t ih =>
    intro q h1 h2
    obtain ⟨h3, h4⟩ := List.pairwise_cons.1 h2
    obtain ⟨i1, i2, i3⟩ := ih x h3 h4
    rw [au.cd]
    by_cases c : x = q
    · subst c
      rw [if_pos rfl]
      refine ⟨i1, i2, fun y => ?_⟩
      rw [i3 y]
      simp
    · rw [if_neg c]
      have hqx : au.lexc q x < 0 := by
        by_cases e : au.lexc q x < 0
        · exact e
        · exact absurd (au.lexc_eq x q (h1 x (by simp)) e) c
      refine ⟨List.pairwise_cons.2 ⟨i2, i1⟩, fun y hy => ?_, fun y => ?_⟩
      · rcases List.mem_cons.1 hy with rfl | hy
        · exact hqx
        · exact au.lexc_trans _ _ _ hqx (i2 y hy)
      · rw [List.mem_cons, i3 y, ← List.mem_cons]
theorem cdup_lt (l : List (List Int)) (h : l.Pairwise (fun x y => ¬ au.lexc y x < 0)) : (au.cdup l).Pairwise (fun x y => au.lexc x y < 0) ∧ ∀ y, y ∈ au.cdup l ↔ y ∈ l := by
  cases l with
  | nil => exact ⟨List.Pairwise.nil, fun y => Iff.rfl⟩
  | cons x t =>
    obtain ⟨h3, h4⟩ := List.pairwise_cons.1 h
    obtain ⟨i1, i2, i3⟩ := cd_lt t x h3 h4
    exact ⟨List.pairwise_cons.2 ⟨i2, i1⟩, i3⟩
theorem tidy_lt (l : List (List Int)) : (au.cdup (au.srt l)).Pairwise (fun x y => au.lexc x y < 0) ∧ ∀ y, y ∈ au.cdup (au.srt l) ↔ y ∈ l := by
  have hs : (au.srt l).Pairwise (fun x y => ¬ au.lexc y x < 0) := by
    have := List.pairwise_mergeSort (le := fun x y => !au.ltr y x) (fun a b c k1 k2 => by
      simp only [Bool.not_eq_true', au.ltr, decide_eq_false_iff_not] at *
      intro hz
      by_cases e : au.lexc b c < 0
      · exact k1 (au.lexc_trans b c a e hz)
      · rw [au.lexc_eq c b k2 e] at hz; exact k1 hz) (fun a b => by
      simp only [Bool.or_eq_true, Bool.not_eq_true', au.ltr, decide_eq_false_iff_not]
      by_cases e : au.lexc b a < 0
      · right
        intro f
        have := au.lexc_trans a b a f e
        rw [au.lexc_self] at this
        omega
      · exact Or.inl e) l
    exact this.imp (fun {x y} h => by simpa [au.ltr] using h)
  obtain ⟨h1, h2⟩ := cdup_lt _ hs
  exact ⟨h1, fun y => (h2 y).trans (List.mergeSort_perm _ _).mem_iff⟩
theorem tidy_eq {l r : List (List Int)} (hr : r.Pairwise (fun x y => au.lexc x y < 0)) (hm : ∀ y, y ∈ l ↔ y ∈ r) : au.cdup (au.srt l) = r := by
  obtain ⟨h1, h2⟩ := tidy_lt l
  refine lt_uniq (fun x h => by rw [au.lexc_self] at h; omega) (fun x y h k => ?_) h1 hr (fun y => (h2 y).trans (hm y))
  have := au.lexc_trans _ _ _ h k
  rw [au.lexc_self] at this
  omega
def edE (nm : Nat → Nat) (i k : Nat) : List Int := [((min (nm i) (nm k) : Nat) : Int), ((max (nm i) (nm k) : Nat) : Int)]
def edR (nm : Nat → Nat) (adj : Nat → Nat → Bool) (i k : Nat) : List (List Int) := ((List.range k).filter (adj i)).map (edE nm i)
def edA (nm : Nat → Nat) (adj : Nat → Nat → Bool) (i : Nat) : List (List Int) := (List.range i).flatMap fun j => edR nm adj j j
theorem edR_succ (nm : Nat → Nat) (adj : Nat → Nat → Bool) (i k : Nat) : edR nm adj i (k + 1) = edR nm adj i k ++ (if adj i k = true then [edE nm i k] else []) := by
  unfold edR
  rw [List.range_succ, List.filter_append, List.map_append]
  congr 1
  by_cases c : adj i k = true <;> simp [c]
theorem edA_succ (nm : Nat → Nat) (adj : Nat → Nat → Bool) (i : Nat) : edA nm adj (i + 1) = edA nm adj i ++ edR nm adj i i := by
  unfold edA
  rw [List.range_succ, List.flatMap_append]
  simp
theorem edR_len (nm : Nat → Nat) (adj : Nat → Nat → Bool) (i k : Nat) : (edR nm adj i k).length ≤ k := by
  unfold edR
  rw [List.length_map]
  have := List.length_filter_le (adj i) (List.range k)
  simpa using this
theorem edA_len (nm : Nat → Nat) (adj : Nat → Nat → Bool) : ∀ i, i ≤ 100000 → (edA nm adj i).length ≤ i * 100000 := by
  intro i
  induction i with
  | zero => intro _; simp [edA]
  | succ i ih =>
    intro h
    have h1 := ih (by omega)
    have h2 := edR_len nm adj i i
    rw [edA_succ, List.length_append]
    omega
theorem edA_mem {nm : Nat → Nat} {adj : Nat → Nat → Bool} {n m : Nat} (hnm : ∀ j, j < n → nm j < m) : ∀ i, i ≤ n → ∀ y, y ∈ edA nm adj i → ∃ a b : Nat, a ≤ b ∧ b < m ∧ y = [((a : Nat) : Int), ((b : Nat) : Int)] := by
  intro i hi y hy
  unfold edA at hy
  obtain ⟨j, hj, hy⟩ := List.mem_flatMap.1 hy
  have hj := List.mem_range.1 hj
  unfold edR at hy
  obtain ⟨k, hk, rfl⟩ := List.mem_map.1 hy
  have hk := List.mem_range.1 (List.mem_filter.1 hk).1
  have h1 := hnm j (by omega)
  have h2 := hnm k (by omega)
  exact ⟨min (nm j) (nm k), max (nm j) (nm k), by omega, by omega, rfl⟩
def tbl (m : Nat) (t : Nat → Nat → Bool) : List (List Bool) := (List.range m).map fun a => (List.range m).map (t a)
theorem tbl_len (m : Nat) (t : Nat → Nat → Bool) : (tbl m t).length = m := by simp [tbl]
theorem tbl_row {m a : Nat} (t : Nat → Nat → Bool) (h : a < m) : cX (tbl m t) ((a : Nat) : Int) = (List.range m).map (t a) := by
  unfold cX tbl
  rw [Int.toNat_natCast, List.getD_eq_getElem?_getD, List.getElem?_map, List.getElem?_range h]; rfl
theorem tbl_congr {m : Nat} {t u : Nat → Nat → Bool} (h : ∀ a b, a < m → b < m → t a b = u a b) : tbl m t = tbl m u := by
  unfold tbl
  refine List.map_congr_left fun a ha => List.map_congr_left fun b hb => h a b (List.mem_range.1 ha) (List.mem_range.1 hb)
theorem tbl_set {m a b : Nat} (t : Nat → Nat → Bool) (ha : a < m) : (tbl m t).set a (((List.range m).map (t a)).set b true) = tbl m (fun x y => if x = a ∧ y = b then true else t x y) := by
  refine List.ext_getElem? fun x => ?_
  by_cases hx : x < m
  · have e2 : (tbl m (fun x y => if x = a ∧ y = b then true else t x y))[x]? = some ((List.range m).map fun y => if x = a ∧ y = b then true else t x y) := by
      unfold tbl; rw [List.getElem?_map, List.getElem?_range hx]; rfl
    rw [e2]
    by_cases e : a = x
    · subst e
      rw [List.getElem?_set_self (by rw [tbl_len]; exact hx)]
      congr 1
      refine List.ext_getElem? fun y => ?_
      by_cases hy : y < m
      · by_cases f : b = y
        · subst f
          rw [List.getElem?_set_self (by simpa using hy), List.getElem?_map, List.getElem?_range hy]
          simp
        · rw [List.getElem?_set_ne f, List.getElem?_map, List.getElem?_map, List.getElem?_range hy]
          simp [show ¬ y = b from fun z => f z.symm]
      · rw [List.getElem?_eq_none (by simp; omega), List.getElem?_eq_none (by simp; omega)]
    · rw [List.getElem?_set_ne e]
      unfold tbl
      rw [List.getElem?_map, List.getElem?_range hx]
      simp [show ¬ x = a from fun z => e z.symm]
  · rw [List.getElem?_eq_none (by simp [tbl]; omega), List.getElem?_eq_none (by simp [tbl]; omega)]
def inE (E : List (List Int)) (a b : Nat) : Bool := decide ([((a : Nat) : Int), ((b : Nat) : Int)] ∈ E)
theorem inE_snoc (E : List (List Int)) (u v a b : Nat) : inE (E ++ [[((u : Nat) : Int), ((v : Nat) : Int)]]) a b = if a = u ∧ b = v then true else inE E a b := by
  unfold inE
  by_cases c : a = u ∧ b = v
  · rw [if_pos c, c.1, c.2]; simp
  · rw [if_neg c]
    refine decide_eq_decide.2 ⟨fun h => ?_, fun h => List.mem_append_left _ h⟩
    rcases List.mem_append.1 h with h | h
    · exact h
    · rw [List.mem_singleton] at h
      injection h with h1 h2
      injection h2 with h2 _
      exact absurd ⟨by omega, by omega⟩ c
def fb (t : Nat → Nat → Bool) (a b : Nat) : List (List Int) := ((List.range b).filter fun y => decide (a ≤ y) && t a y).map fun y => [((a : Nat) : Int), ((y : Nat) : Int)]
def eF (t : Nat → Nat → Bool) (m a : Nat) : List (List Int) := (List.range a).flatMap fun x => fb t x m
theorem rowS_succ (t : Nat → Nat → Bool) {a b : Nat} (h : a ≤ b) : fb t a (b + 1) = fb t a b ++ (if t a b = true then [[((a : Nat) : Int), ((b : Nat) : Int)]] else []) := by
  unfold fb
  rw [List.range_succ, List.filter_append, List.map_append]
  congr 1
  by_cases c : t a b = true <;> simp [c, h]
theorem rowS_self (t : Nat → Nat → Bool) (a : Nat) : fb t a a = [] := by
  unfold fb
  rw [List.filter_eq_nil_iff.2 (fun y hy => by have := List.mem_range.1 hy; simp; omega)]
  rfl
theorem fF (t : Nat → Nat → Bool) (m a : Nat) : eF t m (a + 1) = eF t m a ++ fb t a m := by
  unfold eF
  rw [List.range_succ, List.flatMap_append]
  simp
theorem rowS_len (t : Nat → Nat → Bool) (a b : Nat) : (fb t a b).length ≤ b := by
  unfold fb
  rw [List.length_map]
  have := List.length_filter_le (fun y => decide (a ≤ y) && t a y) (List.range b)
  simpa using this
theorem outS_len (t : Nat → Nat → Bool) (m : Nat) (hm : m ≤ 100000) : ∀ a, (eF t m a).length ≤ a * 100000 := by
  intro a
  induction a with
  | zero => simp [eF]
  | succ a ih =>
    have := rowS_len t a m
    rw [fF, List.length_append]
    omega
theorem outS_len2 (t : Nat → Nat → Bool) (m : Nat) : ∀ a, (eF t m a).length ≤ a * m := by
  intro a
  induction a with
  | zero => simp [eF]
  | succ a ih =>
    have := rowS_len t a m
    rw [fF, List.length_append, Nat.succ_mul]
    omega
theorem lexc_two (a b c d : Nat) : au.lexc [((a : Nat) : Int), ((b : Nat) : Int)] [((c : Nat) : Int), ((d : Nat) : Int)] < 0 ↔ a < c ∨ (a = c ∧ b < d) := by
  simp only [au.lexc]
  by_cases h1 : (a : Int) < c
  · rw [if_pos h1]; constructor <;> intro <;> omega
  · rw [if_neg h1]
    by_cases h2 : (c : Int) < a
    · rw [if_pos h2]; constructor <;> intro <;> omega
    · rw [if_neg h2]
      by_cases h3 : (b : Int) < d
      · rw [if_pos h3]; constructor <;> intro <;> omega
      · rw [if_neg h3]
        by_cases h4 : (d : Int) < b
        · rw [if_pos h4]; constructor <;> intro <;> omega
        · rw [if_neg h4]; constructor <;> intro <;> omega
theorem fa {t : Nat → Nat → Bool} {a m : Nat} {x : List Int} (h : x ∈ fb t a m) : ∃ y, a ≤ y ∧ y < m ∧ t a y = true ∧ x = [((a : Nat) : Int), ((y : Nat) : Int)] := by
  unfold fb at h
  obtain ⟨y, hy, rfl⟩ := List.mem_map.1 h
  obtain ⟨h1, h2⟩ := List.mem_filter.1 hy
  have h1 := List.mem_range.1 h1
  simp only [Bool.and_eq_true, decide_eq_true_eq] at h2
  exact ⟨y, h2.1, h1, h2.2, rfl⟩
theorem outS_lt (t : Nat → Nat → Bool) (m : Nat) : ∀ a, (eF t m a).Pairwise (fun x y => au.lexc x y < 0) := by
  intro a
  induction a with
  | zero => simp [eF]
  | succ a ih =>
    rw [fF]
    refine List.pairwise_append.2 ⟨ih, ?_, fun x hx y hy => ?_⟩
    · unfold fb
      rw [List.pairwise_map]
      exact (List.pairwise_lt_range.filter _).imp (fun {x y} h => (lexc_two a x a y).2 (Or.inr ⟨rfl, h⟩))
    · unfold eF at hx
      obtain ⟨c, hc, hx⟩ := List.mem_flatMap.1 hx
      have hc := List.mem_range.1 hc
      obtain ⟨u, _, _, _, rfl⟩ := fa hx
      obtain ⟨v, _, _, _, rfl⟩ := fa hy
      exact (lexc_two c u a v).2 (Or.inl hc)
theorem outS_mem {E : List (List Int)} {m : Nat} (hE : ∀ y, y ∈ E → ∃ a b : Nat, a ≤ b ∧ b < m ∧ y = [((a : Nat) : Int), ((b : Nat) : Int)]) (y : List Int) : y ∈ E ↔ y ∈ eF (inE E) m m := by
  constructor
  · intro h
    obtain ⟨a, b, h1, h2, rfl⟩ := hE y h
    unfold eF
    refine List.mem_flatMap.2 ⟨a, List.mem_range.2 (by omega), ?_⟩
    unfold fb
    refine List.mem_map.2 ⟨b, List.mem_filter.2 ⟨List.mem_range.2 h2, ?_⟩, rfl⟩
    simp only [Bool.and_eq_true, decide_eq_true_eq, inE]
    exact ⟨h1, h⟩
  · intro h
    unfold eF at h
    obtain ⟨a, _, h⟩ := List.mem_flatMap.1 h
    obtain ⟨b, _, _, h3, rfl⟩ := fa h
    simpa [inE] using h3
theorem edges_eq {nm : Nat → Nat} {adj : Nat → Nat → Bool} {n m : Nat} (hnm : ∀ j, j < n → nm j < m) : au.cdup (au.srt (edA nm adj n)) = eF (inE (edA nm adj n)) m m :=
  tidy_eq (outS_lt _ m m) (fun y => outS_mem (edA_mem hnm n (Nat.le_refl _)) y)
def bsF (bs : List PM.Ball) (j : Nat) : PM.Ball := bs.getD j ⟨0, 0, 0⟩
def dQ (p : Int) (bs : List PM.Ball) (i k : Nat) : Bool := decide (PM.dist p (bsF bs i) (bsF bs k) = 1)
theorem rdBs {bs : List PM.Ball} {j : Nat} (h : j < bs.length) : aD (bs.map enB) ((j : Nat) : Int) = enB (bsF bs j) := by
  unfold aD bsF
  rw [Int.toNat_natCast, List.getD_eq_getElem?_getD, List.getElem?_map, List.getElem?_eq_getElem h, List.getD_eq_getElem?_getD, List.getElem?_eq_getElem h]; rfl
theorem bsF_ok {p : Int} {bs : List PM.Ball} (hO : ∀ x, x ∈ bs → PM.Ok p x) {j : Nat} (h : j < bs.length) : PM.Ok p (bsF bs j) := by
  unfold bsF
  rw [List.getD_eq_getElem?_getD, List.getElem?_eq_getElem h]
  exact hO _ (List.getElem_mem h)
theorem edge_nat {nm : Nat → Nat} {num : List Int} {i k : Nat} (h1 : rd num ((i : Nat) : Int) = ((nm i : Nat) : Int)) (h2 : rd num ((k : Nat) : Int) = ((nm k : Nat) : Int)) : mn (rd num ((i : Nat) : Int)) (rd num ((k : Nat) : Int)) = ((min (nm i) (nm k) : Nat) : Int) ∧ mx (rd num ((i : Nat) : Int)) (rd num ((k : Nat) : Int)) = ((max (nm i) (nm k) : Nat) : Int) := by
  rw [h1, h2, mn_nat, mx_nat]; exact ⟨rfl, rfl⟩
theorem q_l1 {p : Int} (hp : Pr p) {bs : List PM.Ball} (hO : ∀ x, x ∈ bs → PM.Ok p x) (hB : bs.length ≤ 100000) {num : List Int} (hN : num.length = bs.length) {nm : Nat → Nat} (hnm : ∀ j, j < bs.length → rd num ((j : Nat) : Int) = ((nm j : Nat) : Int)) {i : Nat} (hi : i < bs.length) : ∀ (d k K : Nat), k + d = i → 100 ≤ K → aU.l1 (K + d + 1) p (bs.map enB) num (edA nm (dQ p bs) i ++ edR nm (dQ p bs) i k) ((i : Nat) : Int) (bs.map enB) ((bs.length : Nat) : Int) ((i : Nat) : Int) ((i : Nat) : Int) ((k : Nat) : Int) (bsF bs i).lv (bsF bs i).top (bsF bs i).dn = aU.l0 K p (bs.map enB) num (edA nm (dQ p bs) (i + 1)) (bs.map enB) ((bs.length : Nat) : Int) ((i + 1 : Nat) : Int) := by
  intro d
  induction d with
  | zero =>
    intro k K e _
    obtain rfl : k = i := by omega
    simp only [Nat.add_zero, aU.l1]
    rw [if_neg (by omega), ← edA_succ, w64 (by omega) (by omega)]
    rfl
  | succ d ih =>
    intro k K e hK
    have hk : k < bs.length := by omega
    have h9 := ih (k + 1) K (by omega) hK
    have hA := edA_len nm (dQ p bs) i (by omega)
    have hR := edR_len nm (dQ p bs) i k
    obtain ⟨e1, e2⟩ := edge_nat (hnm i hi) (hnm k hk)
    have ed : bG.f (K + d + 1) p (bsF bs i).lv (bsF bs i).top (bsF bs i).dn (enB (bsF bs k)).f0 (enB (bsF bs k)).f1 (enB (bsF bs k)).f2 = some (PM.dist p (bsF bs i) (bsF bs k)) := distance_eq hp (bsF_ok hO hi) (bsF_ok hO hk) _ (by omega)
    rw [show K + (d + 1) + 1 = (K + d + 1) + 1 by omega]
    simp only [aU.l1]
    rw [if_pos (by omega), if_pos (by omega), if_pos (by rw [List.length_map]; omega), rdBs hk, ed]
    simp only [Option.bind_some]
    rw [w64 (show -9223372036854775808 ≤ ((k : Nat) : Int) + 1 by omega) (by omega), show ((k : Nat) : Int) + 1 = ((k + 1 : Nat) : Int) by omega]
    rw [edR_succ] at h9
    by_cases c : PM.dist p (bsF bs i) (bsF bs k) = 1
    · rw [if_pos c, if_pos (by omega), if_pos (by omega), if_pos (by omega), if_pos (by rw [List.length_append]; omega), e1, e2]
      rw [if_pos (show dQ p bs i k = true from decide_eq_true c), ← List.append_assoc] at h9
      exact h9
    · rw [if_neg c]
      rw [if_neg (show ¬ dQ p bs i k = true by rw [show dQ p bs i k = false from decide_eq_false c]; simp), List.append_nil] at h9
      exact h9
theorem q_l0 {p : Int} (hp : Pr p) {bs : List PM.Ball} (hO : ∀ x, x ∈ bs → PM.Ok p x) (hB : bs.length ≤ 100000) {num : List Int} (hN : num.length = bs.length) {nm : Nat → Nat} (hnm : ∀ j, j < bs.length → rd num ((j : Nat) : Int) = ((nm j : Nat) : Int)) : ∀ (d i : Nat), i + d = bs.length → ∃ e, ∀ K, 100 ≤ K → aU.l0 (K + e + 1) p (bs.map enB) num (edA nm (dQ p bs) i) (bs.map enB) ((bs.length : Nat) : Int) ((i : Nat) : Int) = some (au.cdup (au.srt (edA nm (dQ p bs) bs.length)), 0) := by
  intro d
  induction d with
  | zero =>
    intro i e
    obtain rfl : i = bs.length := by omega
    have hA := edA_len nm (dQ p bs) bs.length hB
    refine ⟨0, fun K _ => ?_⟩
    simp only [Nat.add_zero, aU.l0]
    rw [if_neg (by omega), if_pos (by omega)]
  | succ d ih =>
    intro i e
    have hi : i < bs.length := by omega
    obtain ⟨e1, h1⟩ := ih (i + 1) (by omega)
    refine ⟨e1 + i + 2, fun K hK => ?_⟩
    have h2 := q_l1 hp hO hB hN hnm hi i 0 (K + e1 + 1) (by omega) (by omega)
    rw [h1 K hK, show edR nm (dQ p bs) i 0 = [] from rfl, List.append_nil] at h2
    rw [show K + (e1 + i + 2) + 1 = ((K + e1 + 1) + i + 1) + 1 by omega]
    simp only [aU.l0]
    rw [if_pos (by omega), if_pos (by omega), if_pos (by rw [List.length_map]; omega), rdBs hi]
    exact h2
theorem s_l3 {p : Int} (hp : Pr p) {bs : List PM.Ball} (hO : ∀ x, x ∈ bs → PM.Ok p x) (hB : bs.length ≤ 100000) {num : List Int} (hN : num.length = bs.length) {nm : Nat → Nat} (hnm : ∀ j, j < bs.length → rd num ((j : Nat) : Int) = ((nm j : Nat) : Int)) {m : Nat} (hm : ∀ j, j < bs.length → nm j < m) (R : List (List Int)) {i : Nat} (hi : i < bs.length) : ∀ (d k K : Nat), k + d = i → 100 ≤ K → aC.l3 (K + d + 1) p (bs.map enB) R num [] (tbl m (inE (edA nm (dQ p bs) i ++ edR nm (dQ p bs) i k))) ((i : Nat) : Int) ((k : Nat) : Int) = aC.l2 K p (bs.map enB) R num [] (tbl m (inE (edA nm (dQ p bs) (i + 1)))) ((i + 1 : Nat) : Int) := by
  intro d
  induction d with
  | zero =>
    intro k K e _
    obtain rfl : k = i := by omega
    simp only [Nat.add_zero, aC.l3]
    rw [if_neg (by omega), ← edA_succ, w64 (by omega) (by omega)]
    rfl
  | succ d ih =>
    intro k K e hK
    have hk : k < bs.length := by omega
    have h9 := ih (k + 1) K (by omega) hK
    obtain ⟨e1, e2⟩ := edge_nat (hnm i hi) (hnm k hk)
    have m1 := hm i hi
    have m2 := hm k hk
    have ed : an.f (K + d + 1) p (enB (bsF bs i)).f0 (enB (bsF bs i)).f1 (enB (bsF bs i)).f2 (enB (bsF bs k)).f0 (enB (bsF bs k)).f1 (enB (bsF bs k)).f2 = some (PM.dist p (bsF bs i) (bsF bs k)) := ep hp (bsF_ok hO hi) (bsF_ok hO hk) _ (by omega)
    rw [show K + (d + 1) + 1 = (K + d + 1) + 1 by omega]
    rw [aC.l3]
    rw [if_pos (by omega), if_pos (by omega), if_pos (by rw [List.length_map]; omega), if_pos (by omega), if_pos (by rw [List.length_map]; omega), rdBs hi, rdBs hk, ed]
    simp only [Option.bind_some]
    rw [w64 (show -9223372036854775808 ≤ ((k : Nat) : Int) + 1 by omega) (by omega), show ((k : Nat) : Int) + 1 = ((k + 1 : Nat) : Int) by omega]
    rw [edR_succ] at h9
    by_cases c : PM.dist p (bsF bs i) (bsF bs k) = 1
    · rw [if_pos (show dQ p bs i k = true from decide_eq_true c), ← List.append_assoc] at h9
      rw [if_pos c, if_pos (by omega), if_pos (by omega), e1, e2, if_pos (by omega), if_pos (by rw [tbl_len]; omega), if_pos (by omega), tbl_row _ (show min (nm i) (nm k) < m by omega), if_pos (by simp; omega), Int.toNat_natCast, Int.toNat_natCast, tbl_set _ (show min (nm i) (nm k) < m by omega)]
      rw [show tbl m (fun x y => if x = min (nm i) (nm k) ∧ y = max (nm i) (nm k) then true else inE (edA nm (dQ p bs) i ++ edR nm (dQ p bs) i k) x y) = tbl m (inE (edA nm (dQ p bs) i ++ edR nm (dQ p bs) i k ++ [edE nm i k])) from tbl_congr fun a b _ _ => (inE_snoc _ _ _ a b).symm]
      exact h9
    · rw [if_neg c]
      rw [if_neg (show ¬ dQ p bs i k = true by rw [show dQ p bs i k = false from decide_eq_false c]; simp), List.append_nil] at h9
      exact h9
theorem s_l2 {p : Int} (hp : Pr p) {bs : List PM.Ball} (hO : ∀ x, x ∈ bs → PM.Ok p x) (hB : bs.length ≤ 100000) {num : List Int} (hN : num.length = bs.length) {nm : Nat → Nat} (hnm : ∀ j, j < bs.length → rd num ((j : Nat) : Int) = ((nm j : Nat) : Int)) {m : Nat} (hm : ∀ j, j < bs.length → nm j < m) (R : List (List Int)) : ∀ (d i : Nat), i + d = bs.length → ∃ e, ∀ K, 100 ≤ K → aC.l2 (K + e + 1) p (bs.map enB) R num [] (tbl m (inE (edA nm (dQ p bs) i))) ((i : Nat) : Int) = aC.l4 K R [] (tbl m (inE (edA nm (dQ p bs) bs.length))) 0 := by
  intro d
  induction d with
  | zero =>
    intro i e
    obtain rfl : i = bs.length := by omega
    refine ⟨0, fun K _ => ?_⟩
    simp only [Nat.add_zero, aC.l2]
    rw [if_neg (by rw [List.length_map]; omega)]
  | succ d ih =>
    intro i e
    have hi : i < bs.length := by omega
    obtain ⟨e1, h1⟩ := ih (i + 1) (by omega)
    refine ⟨e1 + i + 2, fun K hK => ?_⟩
    have h2 := s_l3 hp hO hB hN hnm hm R hi i 0 (K + e1 + 1) (by omega) (by omega)
    rw [h1 K hK, show edR nm (dQ p bs) i 0 = [] from rfl, List.append_nil] at h2
    rw [show K + (e1 + i + 2) + 1 = ((K + e1 + 1) + i + 1) + 1 by omega]
    simp only [aC.l2]
    rw [if_pos (by rw [List.length_map]; omega)]
    exact h2
theorem s_l5 {R : List (List Int)} {m : Nat} (hR : R.length = m) (hm : m ≤ 100000) (t : Nat → Nat → Bool) {a : Nat} (ha : a < m) : ∀ (d b K : Nat), b + d = m → a ≤ b → aC.l5 (K + d + 1) R (eF t m a ++ fb t a b) (tbl m t) ((a : Nat) : Int) ((b : Nat) : Int) = aC.l4 K R (eF t m (a + 1)) (tbl m t) ((a + 1 : Nat) : Int) := by
  intro d
  induction d with
  | zero =>
    intro b K e _
    obtain rfl : b = m := by omega
    simp only [Nat.add_zero, aC.l5]
    rw [if_neg (by omega), ← fF, w64 (by omega) (by omega)]
    rfl
  | succ d ih =>
    intro b K e hab
    have hb : b < m := by omega
    have h9 := ih (b + 1) K (by omega) (by omega)
    have hA := outS_len t m hm a
    have hW := rowS_len t a b
    have er : rdOf false ((List.range m).map (t a)) ((b : Nat) : Int) = t a b := by
      unfold rdOf
      rw [Int.toNat_natCast, List.getD_eq_getElem?_getD, List.getElem?_map, List.getElem?_range hb]; rfl
    rw [show K + (d + 1) + 1 = (K + d + 1) + 1 by omega]
    rw [aC.l5]
    rw [if_pos (by omega), if_pos (by omega), if_pos (by rw [tbl_len]; omega), if_pos (by omega), tbl_row t ha, if_pos (by simp; omega), er, w64 (by omega) (by omega), show ((b : Nat) : Int) + 1 = ((b + 1 : Nat) : Int) by omega]
    rw [rowS_succ t hab] at h9
    by_cases c : t a b = true
    · rw [if_pos c, if_pos (by rw [List.length_append]; omega)]
      rw [if_pos c, ← List.append_assoc] at h9
      exact h9
    · rw [if_neg c]
      rw [if_neg c, List.append_nil] at h9
      exact h9
theorem s_l4 {R : List (List Int)} {m : Nat} (hR : R.length = m) (hm : m ≤ 100000) (t : Nat → Nat → Bool) : ∀ (d a : Nat), a + d = m → ∃ e, ∀ K, aC.l4 (K + e + 1) R (eF t m a) (tbl m t) ((a : Nat) : Int) = some (eF t m m, 0) := by
  intro d
  induction d with
  | zero =>
    intro a e
    obtain rfl : a = m := by omega
    refine ⟨0, fun K => ?_⟩
    simp only [Nat.add_zero, aC.l4]
    rw [if_neg (by omega)]
  | succ d ih =>
    intro a e
    obtain ⟨e1, h1⟩ := ih (a + 1) (by omega)
    refine ⟨e1 + (m - a) + 2, fun K => ?_⟩
    have h2 := s_l5 hR hm t (show a < m by omega) (m - a) a (K + e1 + 1) (by omega) (Nat.le_refl _)
    rw [h1 K, rowS_self, List.append_nil] at h2
    rw [show K + (e1 + (m - a) + 2) + 1 = ((K + e1 + 1) + (m - a) + 1) + 1 by omega]
    simp only [aC.l4]
    rw [if_pos (by omega)]
    exact h2
def ee (w : List Int) : List Int → Int → List Int
  | [], _ => w
  | x :: t, i => ee (w.set x.toNat i) t i
theorem setAll_len : ∀ (c : List Int) (w : List Int) (i : Int), (ee w c i).length = w.length := by
  intro c
  induction c with
  | nil => intro w i; rfl
  | cons x t ih => intro w i; rw [ee, ih, List.length_set]
theorem setAll_rd : ∀ (c : List Int) (w : List Int) (i : Int) (j : Nat), (∀ x, x ∈ c → 0 ≤ x) → j < w.length → rd (ee w c i) ((j : Nat) : Int) = if ((j : Nat) : Int) ∈ c then i else rd w ((j : Nat) : Int) := by
  intro c
  induction c with
  | nil => intro w i j _ _; simp [ee]
  | cons x t ih =>
    intro w i j h hj
    have hx := h x (by simp)
    rw [ee, ih _ i j (fun y hy => h y (by simp [hy])) (by rw [List.length_set]; exact hj)]
    by_cases c : ((j : Nat) : Int) ∈ t
    · rw [if_pos c, if_pos (by simp [c])]
    · rw [if_neg c]
      by_cases e : ((j : Nat) : Int) = x
      · rw [if_pos (by simp [e]), eh, if_pos ⟨by omega, by omega⟩]
      · rw [if_neg (by simp [c, e]), eh, if_neg (fun z => e (by omega))]
theorem s_l1 {n m : Nat} (p : Int) (B : List S43) (R : List (List Int)) (T : List (List Bool)) {i : Nat} (hi : i < R.length) (hR : R.length ≤ 100000) {c : List Int} (hc : bE R ((i : Nat) : Int) = c) (hcl : c.length ≤ 100000) : ∀ (suf pre w : List Int) (K : Nat), c = pre ++ suf → w.length = n → (∀ x, x ∈ suf → 0 ≤ x ∧ x < ((n : Nat) : Int)) → aC.l1 (K + suf.length + 1) p B R w [] T ((i : Nat) : Int) ((pre.length : Nat) : Int) = aC.l0 K p B R (ee w suf ((i : Nat) : Int)) [] T ((i + 1 : Nat) : Int) := by
  intro suf
  induction suf with
  | nil =>
    intro pre w K e _ _
    have el : c.length = pre.length := by rw [e]; simp
    simp only [List.length_nil, Nat.add_zero, aC.l1]
    rw [if_pos (by omega), if_pos (by omega), hc, if_neg (by omega), w64 (by omega) (by omega)]
    rfl
  | cons x t ih =>
    intro pre w K e hw hx
    have el : c.length = pre.length + (t.length + 1) := by rw [e]; simp
    obtain ⟨x0, x1⟩ := hx x (by simp)
    have er : rd c ((pre.length : Nat) : Int) = x := by unfold rd; rw [e]; simp
    have h9 := ih (pre ++ [x]) (w.set x.toNat ((i : Nat) : Int)) K (by rw [e]; simp) (by rw [List.length_set]; exact hw) (fun y hy => hx y (by simp [hy]))
    rw [List.length_append, List.length_singleton] at h9
    rw [List.length_cons, show K + (t.length + 1) + 1 = (K + t.length + 1) + 1 by omega]
    rw [aC.l1]
    rw [if_pos (by omega), if_pos (by omega), hc, if_pos (by omega), if_pos (by omega), er, if_pos x0, if_pos (by omega), w64 (by omega) (by omega), show ((pre.length : Nat) : Int) + 1 = ((pre.length + 1 : Nat) : Int) by omega]
    exact h9
theorem lead_at {g : Nat → Nat} {n j : Nat} (hg : PM.GoodG n g) (hj : j < n) : (PM.lead g n)[PM.rk g (g j)]? = some (g j) := by
  obtain ⟨h1, h2⟩ := hg j hj
  obtain ⟨C, e, _⟩ := PM.lead_split h2 (n - (g j + 1))
  rw [show g j + 1 + (n - (g j + 1)) = n by omega] at e
  unfold PM.rk
  rw [e, List.getElem?_append_right (Nat.le_refl _), Nat.sub_self]
  rfl
theorem rk_lt {g : Nat → Nat} {n j : Nat} (hg : PM.GoodG n g) (hj : j < n) : PM.rk g (g j) < (PM.lead g n).length := (List.getElem?_eq_some_iff.1 (lead_at hg hj)).1
theorem lead_nodup (g : Nat → Nat) (n : Nat) : (PM.lead g n).Nodup := by unfold PM.lead; exact List.nodup_range.filter _
theorem rk_of {g : Nat → Nat} {n j i : Nat} (hg : PM.GoodG n g) (hj : j < n) (h : (PM.lead g n)[i]? = some (g j)) : PM.rk g (g j) = i := by
  have h1 := lead_at hg hj
  obtain ⟨a1, a2⟩ := List.getElem?_eq_some_iff.1 h1
  obtain ⟨b1, b2⟩ := List.getElem?_eq_some_iff.1 h
  exact (List.getElem_inj (lead_nodup g n)).1 (a2.trans b2.symm)
theorem cls_mem {g : Nat → Nat} {m n : Nat} {x : Int} (h : x ∈ PM.cls g m n) : ∃ j, j < n ∧ g j = m ∧ x = ((j : Nat) : Int) := by
  unfold PM.cls at h
  obtain ⟨j, hj, rfl⟩ := List.mem_map.1 h
  obtain ⟨h1, h2⟩ := List.mem_filter.1 hj
  exact ⟨j, List.mem_range.1 h1, by simpa using h2, rfl⟩
theorem cls_in {g : Nat → Nat} {m n j : Nat} (hj : j < n) (h : g j = m) : ((j : Nat) : Int) ∈ PM.cls g m n := by
  unfold PM.cls
  exact List.mem_map.2 ⟨j, List.mem_filter.2 ⟨List.mem_range.2 hj, by simpa using h⟩, rfl⟩
theorem s_l0 {p : Int} {B : List S43} {n : Nat} (hn : n ≤ 100000) {g : Nat → Nat} (hg : PM.GoodG n g) : ∀ (d i : Nat) (w : List Int), i + d = (PM.out g n).length → w.length = n → (∀ j, j < n → PM.rk g (g j) < i → rd w ((j : Nat) : Int) = ((PM.rk g (g j) : Nat) : Int)) → ∃ w' e, (w'.length = n ∧ ∀ j, j < n → rd w' ((j : Nat) : Int) = ((PM.rk g (g j) : Nat) : Int)) ∧ ∀ K, aC.l0 (K + e + 1) p B (PM.out g n) w [] (List.replicate i (List.replicate (PM.out g n).length false)) ((i : Nat) : Int) = aC.l2 K p B (PM.out g n) w' [] (List.replicate (PM.out g n).length (List.replicate (PM.out g n).length false)) 0 := by
  have hol := PM.out_len g n
  have hlo := PM.lead_le g n
  intro d
  induction d with
  | zero =>
    intro i w e hw hP
    obtain rfl : i = (PM.out g n).length := by omega
    refine ⟨w, 0, ⟨hw, fun j hj => hP j hj (by rw [hol]; exact rk_lt hg hj)⟩, fun K => ?_⟩
    simp only [Nat.add_zero, aC.l0]
    rw [if_neg (by omega)]
  | succ d ih =>
    intro i w e hw hP
    have hi : i < (PM.lead g n).length := by omega
    have hc : bE (PM.out g n) ((i : Nat) : Int) = PM.cls g ((PM.lead g n)[i]) n := by
      unfold bE PM.out
      rw [Int.toNat_natCast, List.getD_eq_getElem?_getD, List.getElem?_map, List.getElem?_eq_getElem hi]; rfl
    have hcl := PM.cls_le g ((PM.lead g n)[i]) n
    obtain ⟨w', e1, hq, h1⟩ := ih (i + 1) (ee w (PM.cls g ((PM.lead g n)[i]) n) ((i : Nat) : Int)) (by omega) (by rw [setAll_len]; exact hw) (fun j hj hlt => by
      rw [setAll_rd _ _ _ _ (fun x hx => by obtain ⟨y, _, _, rfl⟩ := cls_mem hx; omega) (by omega)]
      by_cases c : ((j : Nat) : Int) ∈ PM.cls g ((PM.lead g n)[i]) n
      · rw [if_pos c]
        obtain ⟨y, h1, h2, h3⟩ := cls_mem c
        obtain rfl : j = y := by omega
        rw [rk_of hg hj (by rw [List.getElem?_eq_getElem hi, h2])]
      · rw [if_neg c]
        refine hP j hj ?_
        by_cases q : PM.rk g (g j) = i
        · refine absurd (cls_in hj ?_) c
          have := lead_at hg hj
          rw [q, List.getElem?_eq_getElem hi] at this
          exact (Option.some.inj this).symm
        · omega)
    refine ⟨w', e1 + (PM.cls g ((PM.lead g n)[i]) n).length + 2, hq, fun K => ?_⟩
    have h2 := s_l1 (n := n) (m := 0) p B (PM.out g n) (List.replicate (i + 1) (List.replicate (PM.out g n).length false)) (i := i) (by omega) (by omega) hc (by omega) (PM.cls g ((PM.lead g n)[i]) n) [] w (K + e1 + 1) rfl hw (fun x hx => by obtain ⟨y, h3, _, rfl⟩ := cls_mem hx; omega)
    rw [h1 K] at h2
    rw [show K + (e1 + (PM.cls g ((PM.lead g n)[i]) n).length + 2) + 1 = ((K + e1 + 1) + (PM.cls g ((PM.lead g n)[i]) n).length + 1) + 1 by omega]
    simp only [aC.l0]
    rw [if_pos (by omega), if_pos (by omega), if_pos (by omega), if_pos (by rw [List.length_replicate]; omega), Int.toNat_natCast, ← List.replicate_succ']
    exact h2
theorem regF_balls {p : Int} (hp : Pr p) : ∀ d n, ∃ bs : List PM.Ball, regF p d n = bs.map enB ∧ ∀ x, x ∈ bs → PM.Ok p x := by
  have one : ∀ n, ∃ bs : List PM.Ball, (dj p ⟨0, 0, 0⟩ n).1 = bs.map enB ∧ ∀ x, x ∈ bs → PM.Ok p x := by
    intro n
    unfold dj
    cases e : PM.sph p ⟨0, 0, 0⟩ n with
    | none => exact ⟨[], rfl, by simp⟩
    | some l => exact ⟨l, rfl, fun x hx => (PM.sph_mem hp ok_zero _ l e x hx).1⟩
  intro d
  induction d with
  | zero => exact fun n => one n
  | succ d ih =>
    intro n
    obtain ⟨b1, e1, o1⟩ := one n
    obtain ⟨b2, e2, o2⟩ := ih (n + 1)
    refine ⟨b1 ++ b2, ?_, fun x hx => (List.mem_append.mp hx).elim (o1 x) (o2 x)⟩
    show (dj p ⟨0, 0, 0⟩ n).1 ++ regF p d (n + 1) = _
    rw [e1, e2, List.map_append]
theorem out_zero (g : Nat → Nat) : PM.out g 0 = [] := by simp [PM.out, PM.lead]
theorem out_small (g : Nat → Nat) (n : Nat) : (PM.out g n).length ≤ n ∧ ∀ x, x ∈ PM.out g n → x.length ≤ n := by
  refine ⟨by rw [PM.out_len]; exact PM.lead_le g n, fun x hx => ?_⟩
  unfold PM.out at hx
  obtain ⟨m, _, rfl⟩ := List.mem_map.mp hx
  exact PM.cls_le g m n
theorem tbl_none (m : Nat) : List.replicate m (List.replicate m false) = tbl m (inE []) := by
  unfold tbl
  refine List.ext_getElem (by simp) fun a h1 h2 => ?_
  simp only [List.getElem_replicate, List.getElem_map]
  refine List.ext_getElem (by simp) fun b h3 h4 => ?_
  simp [inE]
theorem quot_res {p : Int} (hp : Pr p) (l : List S59) (hM : allM l) (hl : l.length ≤ 100000) (bs : List PM.Ball) (hO : ∀ x, x ∈ bs → PM.Ok p x) (hB : bs.length ≤ 20000) : ∃ R : List (List Int), (R.length ≤ 1000000000 ∧ ∀ x, x ∈ R → x.length = 2) ∧ (∃ nm C, ∃ K, ∀ k, K ≤ k → aK.f k p l (bs.map enB) = some (C, nm) ∧ aU.l0 k p (bs.map enB) nm [] (bs.map enB) ((bs.length : Nat) : Int) 0 = some (R, 0)) ∧ (∃ L C, ∃ K, ∀ k, K ≤ k → aE.f k p l (bs.map enB) = some L ∧ aW.f k L = some C ∧ aC.l0 k p (bs.map enB) C (List.replicate bs.length 0) [] [] 0 = some (R, 0)) := by
  have hB2 : (bs.map enB).length ≤ 100000 := by rw [List.length_map]; omega
  have hid : PM.GoodG (bs.map enB).length (fun t => t) := fun j _ => ⟨Nat.le_refl _, rfl⟩
  have hg := allF_good p (bs.map enB) l bs 0 (fun t => t) (by simp) hid
  have g0 : PM.gl 0 (fun t => t) = [] := rfl
  obtain ⟨d1, h1⟩ := impl_all hp l hM hl (bs.map enB) hB2 bs [] (fun t => t) rfl hO hid
  obtain ⟨d2, h2⟩ := spec_all hp l hM hl (bs.map enB) hB2 bs [] (fun t => t) rfl hO hid
  have i1 := fun k => impl_init hB2 p l (bs.map enB) (bs.map enB).length 0 k (by omega)
  have i2 := fun k => spec_init p l (bs.map enB) hB2 (bs.map enB).length 0 k (by omega)
  generalize allF p (bs.map enB) l bs 0 (fun t => t) = g at hg h1 h2
  simp only [List.length_map] at hg h1 h2 i1 i2 hB2
  obtain ⟨nm, ⟨n1, n2⟩, h3⟩ := impl_l4 hB2 hg bs.length 0 (List.replicate bs.length 0) (by omega) (by simp) (fun j hj => by omega)
  obtain ⟨e4, h4⟩ := spec_cls hB2 hg bs.length 0 (by omega)
  have hol := PM.out_len g bs.length
  have hlo := PM.lead_le g bs.length
  have hm : ∀ j, j < bs.length → PM.rk g (g j) < (PM.out g bs.length).length := fun j hj => by rw [hol]; exact rk_lt hg hj
  obtain ⟨e5, h5⟩ := q_l0 hp hO hB2 n1 (nm := fun j => PM.rk g (g j)) n2 bs.length 0 (by omega)
  obtain ⟨w', e6, ⟨w1, w2⟩, h6⟩ := s_l0 (p := p) (B := bs.map enB) hB2 hg (PM.out g bs.length).length 0 (List.replicate bs.length 0) (by omega) (by simp) (fun j _ hj => by omega)
  obtain ⟨e7, h7⟩ := s_l2 hp hO hB2 w1 (nm := fun j => PM.rk g (g j)) w2 hm (PM.out g bs.length) bs.length 0 (by omega)
  obtain ⟨e8, h8⟩ := s_l4 (R := PM.out g bs.length) rfl (by omega) (inE (edA (fun j => PM.rk g (g j)) (dQ p bs) bs.length)) (PM.out g bs.length).length 0 (by omega)
  have hE := edges_eq (adj := dQ p bs) hm
  have hA := outS_len (inE (edA (fun j => PM.rk g (g j)) (dQ p bs) bs.length)) (PM.out g bs.length).length (by omega) (PM.out g bs.length).length
  rw [tbl_none] at h6
  refine ⟨eF (inE (edA (fun j => PM.rk g (g j)) (dQ p bs) bs.length)) (PM.out g bs.length).length (PM.out g bs.length).length, ⟨?_, fun x hx => ?_⟩, ⟨nm, PM.out g bs.length, 13841387400 + 2 * bs.length + d1 + e5 + 103, fun k hk => ⟨?_, ?_⟩⟩, ⟨PM.gl bs.length g, PM.out g bs.length, 13841387400 + bs.length + d2 + e4 + e6 + e7 + e8 + 110, fun k hk => ⟨?_, ?_, ?_⟩⟩⟩
  · have h9 := outS_len2 (inE (edA (fun j => PM.rk g (g j)) (dQ p bs) bs.length)) (PM.out g bs.length).length (PM.out g bs.length).length
    have h10 : (PM.out g bs.length).length * (PM.out g bs.length).length ≤ 20000 * 20000 := Nat.mul_le_mul (by omega) (by omega)
    omega
  · unfold eF at hx
    obtain ⟨a, _, hx⟩ := List.mem_flatMap.1 hx
    obtain ⟨b, _, _, _, rfl⟩ := fa hx
    rfl
  · obtain ⟨q, rfl⟩ : ∃ q, k = ((q + bs.length + 1) + d1 + 1) + bs.length + 1 := ⟨k - (2 * bs.length + d1 + 3), by omega⟩
    unfold aK.f
    have a1 := i1 ((q + bs.length + 1) + d1 + 1)
    have a2 := h1 (q + bs.length + 1) (by omega)
    have a3 := h3 q
    rw [out_zero] at a3
    rw [g0] at a1
    simp only [List.length_nil] at a2
    rw [show (((0 : Nat)) : Int) = 0 from rfl] at a1 a2 a3
    simp only [List.length_map]
    rw [a1, a2, a3]
  · obtain ⟨q, rfl⟩ : ∃ q, k = q + e5 + 1 := ⟨k - (e5 + 1), by omega⟩
    have := h5 q (by omega)
    rw [hE] at this
    exact this
  · obtain ⟨q, rfl⟩ : ∃ q, k = (q + d2 + 1) + bs.length + 1 := ⟨k - (bs.length + d2 + 2), by omega⟩
    unfold aE.f
    have a1 := i2 (q + d2 + 1)
    have a2 := h2 q (by omega)
    rw [g0] at a1
    simp only [List.length_nil] at a2
    rw [show (((0 : Nat)) : Int) = 0 from rfl] at a1 a2
    rw [a1, a2]
  · obtain ⟨q, rfl⟩ : ∃ q, k = q + e4 + 1 := ⟨k - (e4 + 1), by omega⟩
    unfold aW.f
    have a1 := h4 q
    rw [show PM.lead g 0 = [] from by simp [PM.lead], List.map_nil, show (((0 : Nat)) : Int) = 0 from rfl] at a1
    exact a1
  · obtain ⟨q, rfl⟩ : ∃ q, k = ((q + e8 + 1) + e7 + 1) + e6 + 1 := ⟨k - (e6 + e7 + e8 + 3), by omega⟩
    have a1 := h6 ((q + e8 + 1) + e7 + 1)
    have a2 := h7 (q + e8 + 1) (by omega)
    have a3 := h8 q
    rw [show edA (fun j => PM.rk g (g j)) (dQ p bs) 0 = [] from rfl] at a2
    exact a1.trans (a2.trans a3)
theorem both_res (p : Int) (l : List S59) (r : Int) (hl : l.length ≤ 1048576) : ∃ R : List (List Int) × Int, (R.1.length ≤ 1000000000 ∧ ∀ x, x ∈ R.1 → x.length = 2) ∧ (∃ K, ∀ k, K ≤ k → aU.f k p l r = some R) ∧ ∃ K, ∀ k, K ≤ k → aC.f k p l r = some R := by
  obtain ⟨Kb, hb⟩ := regionCode_eq p l r hl
  by_cases c : orbC p l r = 0
  · obtain ⟨hp, hm, h6, hr⟩ := orbC0 c
    obtain ⟨bs, e, hO⟩ := regF_balls hp r.toNat 0
    have hlen := regF_len hp r.toNat 0 (by omega)
    rw [e, List.length_map] at hlen
    obtain ⟨R, h0, ⟨nm, C, K1, h1⟩, ⟨L, C2, K2, h2⟩⟩ := quot_res hp l hm (by omega) bs hO (by omega)
    obtain ⟨K3, h3⟩ := l06Region_eq hp r.toNat (by omega)
    refine ⟨(R, 0), h0, ⟨Kb + K1 + 5000000, fun k hk => ?_⟩, ⟨1048580 + K2 + K3, fun k hk => ?_⟩⟩
    · unfold aU.f
      have a1 := region_eq hp r.toNat (by omega) k (by omega)
      rw [Int.toNat_of_nonneg hr.1, e] at a1
      rw [hb k (by omega), c]
      simp only [Option.bind_some, if_true]
      rw [a1]
      simp only [Option.bind_some]
      rw [(h1 k (by omega)).1]
      simp only [Option.bind_some, List.length_map]
      exact (h1 k (by omega)).2
    · unfold aC.f
      have a1 := h3 k (by omega)
      rw [Int.toNat_of_nonneg hr.1, e] at a1
      rw [l06Code_eq p l r hl k (by omega), c]
      simp only [Option.bind_some, if_true]
      rw [a1]
      simp only [Option.bind_some]
      rw [(h2 k (by omega)).1]
      simp only [Option.bind_some]
      rw [(h2 k (by omega)).2.1]
      simp only [Option.bind_some, List.length_map]
      rw [if_pos (by omega), if_pos (by omega), Int.toNat_natCast]
      exact (h2 k (by omega)).2.2
  · refine ⟨([], orbC p l r), by simp, ⟨Kb, fun k hk => ?_⟩, ⟨1048580, fun k hk => ?_⟩⟩
    · unfold aU.f
      rw [hb k hk]
      simp only [Option.bind_some]
      rw [if_neg c]
    · unfold aC.f
      rw [l06Code_eq p l r hl k hk]
      simp only [Option.bind_some]
      rw [if_neg c]
theorem FnExactQuotientOf (p : Int) (l : List S58) (r : Int) (_ : (Lit.int .i64 p).wf = true) (hl : l.length ≤ 9223372036854775807) (_ : (Lit.int .i64 r).wf = true) : ∃ k, laws_FnExactQuotientOf.f k p l r = some true := by
  by_cases hs : l.length ≤ 1048576
  · obtain ⟨K0, h0⟩ := toMats_eq l hs
    have hm : (l.map cvM).length ≤ 1048576 := by rw [List.length_map]; exact hs
    obtain ⟨R, ⟨hR1, hR2⟩, ⟨K2, h2⟩, ⟨K1, h1⟩⟩ := both_res p (l.map cvM) r hm
    obtain ⟨K3, h3⟩ := eqMats (l.map cvM) hm
    obtain ⟨K4, h4⟩ := markMats (l.map cvM) hm
    obtain ⟨K5, h5⟩ := eqRows R.1 (by omega) (fun x hx => by have := hR2 x hx; omega)
    obtain ⟨Y, ⟨K6, h6⟩, ⟨K7, h7⟩⟩ := markRows R.1 hR1 (fun x hx => by have := hR2 x hx; omega)
    refine ⟨K0 + K1 + K2 + K3 + K4 + K5 + K6 + K7 + 1 + 1 + 1 + 1, ?_⟩
    unfold laws_FnExactQuotientOf.f
    rw [sz_small l hs]
    simp only [Option.bind_some]
    rw [if_neg (by omega), h0 _ (by omega)]
    simp only [Option.bind_some]
    rw [h1 _ (by omega)]
    simp only [Option.bind_some]
    rw [h2 _ (by omega)]
    simp only [Option.bind_some]
    rw [h5 _ (by omega)]
    simp only [Option.bind_some, if_true, bne_self_eq_false, laws_FnExactQuotientOf.j0]
    rw [if_neg (by simp), h0 _ (by omega)]
    simp only [Option.bind_some]
    rw [h3 _ (by omega)]
    simp only [Option.bind_some, if_true]
    rw [h4 _ (by omega)]
    simp only [Option.bind_some]
    rw [if_neg (by omega), h5 _ (by omega)]
    simp only [Option.bind_some, if_true, laws_FnExactQuotientOf.j1]
    rw [if_neg (by simp), h6 _ (by omega)]
    simp only [Option.bind_some]
    rw [h7 _ (by omega)]
    simp only [Option.bind_some]
    rw [if_neg (by omega), if_pos trivial, h0 _ (by omega)]
    simp only [Option.bind_some]
    rw [h2 _ (by omega)]
    simp only [Option.bind_some]
    rw [h5 _ (by omega)]
    simp only [Option.bind_some, if_true, bne_self_eq_false, laws_FnExactQuotientOf.j2]
    rw [if_neg (by simp), h7 _ (by omega)]
    simp only [Option.bind_some]
    rw [if_neg (by omega), if_pos trivial]
  · refine ⟨0, ?_⟩
    unfold laws_FnExactQuotientOf.f
    rw [sz_large l hs hl]
    simp only [Option.bind_some]
    rw [if_pos (by omega)]
end Go.Proofs.YtnhiehpbkimaeaaGreat.Pure
