/- The program's OrbitIn and the reference's return the same, for all arguments: the printed functions' law answers true. -/
import Derived.Test.YtccpccnnbacgjaaQLFnExactOrbitIn
import Derived.Test.YtccpccnnbacgjaaMath
import Derived.Laws.Bits64b
import Derived.Lib.BitFns
set_option linter.unusedVariables false
set_option linter.unusedSimpArgs false
namespace Go.Proofs.Ytccpccnnbacgjaa.Pure
open Go.RowKit Go.Proofs.Ytccpccnnbacgjaa.PAll Go.Proofs.YtccpccnnbacgjaaW.PrintWords Go.Proofs.YtccpccnnbacgjaaW.PrintLast PM

theorem w64 {n : Int} (h1 : -9223372036854775808 ≤ n) (h2 : n ≤ 9223372036854775807) : wrap64 n = n := by unfold wrap64; omega
theorem rd_nat (l : List Int) (i : Nat) (h : i < l.length) : l[i]? = some (rd l (i : Int)) := by
 unfold rd; simp [List.getD_eq_getElem?_getD, h]

theorem prime_cases (p : Int) : (spec_l01Prime.f p = some true ∧ (p = 2 ∨ p = 3 ∨ p = 5 ∨ p = 7)) ∨ (spec_l01Prime.f p = some false ∧ ¬ (p = 2 ∨ p = 3 ∨ p = 5 ∨ p = 7)) := by
 unfold spec_l01Prime.f
 by_cases h2 : p = 2
 ·
  simp [h2]
 by_cases h3 : p = 3
 ·
  simp [h3]
 by_cases h5 : p = 5
 ·
  simp [h5]
 by_cases h7 : p = 7
 ·
  simp [h7]
 ·
  simp [h2, h3, h5, h7]

theorem isPrime_eq (p : Int) : impl_isPrime.f p = spec_l01Prime.f p := rfl

theorem in_eq (n a b : Int) : spec_l01In.f n a b = some (decide (a ≤ n ∧ n ≤ b)) := by
 unfold spec_l01In.f
 by_cases h : a ≤ n
 ·
  rw [if_pos h]; simp [h]
 ·
  rw [if_neg (by omega)]; simp [h]

/-- all numbers of a list have absolute values of at most so much -/
def allB (m : Int) (l : List Int) : Bool := l.all fun x => decide (-m ≤ x ∧ x ≤ m)
theorem allB_drop (m : Int) (l : List Int) (i : Nat) (h : i < l.length) : allB m (l.drop i) = (decide (-m ≤ rd l i ∧ rd l i ≤ m) && allB m (l.drop (i + 1))) := by
 have h1 := rd_nat l i h
 rw [List.getElem?_eq_getElem h] at h1
 rw [List.drop_eq_getElem_cons h, Option.some.inj h1]; rfl
theorem within_eq (m : Int) (hm : 0 ≤ m) (hm2 : m ≤ 1000000000000000000) (l : List Int) (hl : l.length ≤ 1048576) : ∃ K, ∀ k, K ≤ k → impl_within.f k m l = some (allB m l) := by
 have go : ∀ (d k i : Nat), i + d = l.length → d < k → impl_within.l0 k m l l.length i = some (allB m (l.drop i)) := by
  intro d
  induction d with
  | zero =>
   intro k i h2 h3
   obtain ⟨k, rfl⟩ : ∃ m, k = m + 1 := ⟨k - 1, by omega⟩
   simp only [impl_within.l0]
   rw [if_neg (by omega), List.drop_eq_nil_of_le (by omega)]; rfl
  | succ d ih =>
   intro k i h2 h3
   obtain ⟨k, rfl⟩ : ∃ m, k = m + 1 := ⟨k - 1, by omega⟩
   simp only [impl_within.l0]
   rw [if_pos (by omega), if_pos (by omega), if_pos (by omega), allB_drop _ _ _ (by omega), w64 (n := -m) (by omega) (by omega), w64 (by omega) (by omega)]
   have := ih k (i + 1) (by omega) (by omega)
   rw [show ((i : Int) + 1) = ((i + 1 : Nat) : Int) from by omega, this]
   by_cases h : rd l (i : Int) < -m
   ·
    rw [if_pos h, decide_eq_false (by omega)]; rfl
   ·
    rw [if_neg h]
    by_cases h' : rd l (i : Int) > m
    ·
     rw [if_pos h', decide_eq_false (by omega)]; rfl
    ·
     rw [if_neg h', decide_eq_true (by omega)]; rfl
 exact ⟨l.length + 1, fun k hk => by
  have := go l.length k 0 (by omega) (by omega)
  simpa [impl_within.f] using this⟩

theorem all_drop {α : Type} (P : α → Bool) (l : List α) (i : Nat) (h : i < l.length) : (l.drop i).all P = (P (l[i]'h) && (l.drop (i + 1)).all P) := by
 rw [List.drop_eq_getElem_cons h]; rfl
theorem tmod_zero_iff (n p : Int) : n.tmod p = 0 ↔ p ∣ n := Int.dvd_iff_tmod_eq_zero.symm

theorem val_eq (p n : Int) (hp : Pr p) (hn : n ≠ 0) (hb : n.natAbs ≤ 9223372036854775807) : ∀ k, 70 ≤ k → spec_l01Val.f k p n = some (vl p n : Int) := by
 have hp2 := hp.pos
 have go : ∀ (v k : Nat) (n s : Int), n ≠ 0 → n.natAbs ≤ 9223372036854775807 → vl p n = v → v < k → 0 ≤ s → s + v ≤ 1000000 → spec_l01Val.l0 k p n s = some (s + v) := by
  intro v
  induction v with
  | zero =>
   intro k n s hn hb hv hk h0 h1
   obtain ⟨k, rfl⟩ : ∃ m, k = m + 1 := ⟨k - 1, by omega⟩
   simp only [spec_l01Val.l0]
   rw [if_neg (by omega), if_neg (by rw [tmod_zero_iff]; exact (vl_zero_iff hp hn).1 hv)]
   simp
  | succ v ih =>
   intro k n s hn hb hv hk h0 h1
   obtain ⟨k, rfl⟩ : ∃ m, k = m + 1 := ⟨k - 1, by omega⟩
   have hd : p ∣ n := Decidable.byContradiction fun h => by have := (vl_zero_iff hp hn).2 h; omega
   obtain ⟨g1, g2, g3⟩ := vl_step hp hn hd
   simp only [spec_l01Val.l0]
   rw [if_neg (by omega), if_pos (by rw [tmod_zero_iff]; exact hd), w64 (n := n.tdiv p) (by omega) (by omega), w64 (n := s + 1) (by omega) (by omega), ih k _ _ g1 (by omega) (by omega) (by omega) (by omega) (by omega)]
   congr 1; omega
 intro k hk
 have hle := vl_le63 hp hn (by omega)
 unfold spec_l01Val.f
 rw [go (vl p n) k n 0 hn hb rfl (by omega) (by omega) (by omega)]
 congr 1; omega

theorem valuation_eq (p n : Int) (hp : Pr p) (hb : n.natAbs ≤ 9223372036854775807) : ∀ k, 70 ≤ k → impl_valuation.f k p n = some (vz p n) := by
 have hp2 := hp.pos
 have go : ∀ (v k : Nat) (n s : Int), n ≠ 0 → n.natAbs ≤ 9223372036854775807 → vl p n = v → v < k → 0 ≤ s → s + v ≤ 1000000 → impl_valuation.l0 k p n s = some (s + v) := by
  intro v
  induction v with
  | zero =>
   intro k n s hn hb hv hk h0 h1
   obtain ⟨k, rfl⟩ : ∃ m, k = m + 1 := ⟨k - 1, by omega⟩
   simp only [impl_valuation.l0]
   rw [if_neg (by omega), if_neg (by rw [tmod_zero_iff]; exact (vl_zero_iff hp hn).1 hv)]
   simp
  | succ v ih =>
   intro k n s hn hb hv hk h0 h1
   obtain ⟨k, rfl⟩ : ∃ m, k = m + 1 := ⟨k - 1, by omega⟩
   have hd : p ∣ n := Decidable.byContradiction fun h => by have := (vl_zero_iff hp hn).2 h; omega
   obtain ⟨g1, g2, g3⟩ := vl_step hp hn hd
   simp only [impl_valuation.l0]
   rw [if_neg (by omega), if_pos (by rw [tmod_zero_iff]; exact hd), w64 (n := n.tdiv p) (by omega) (by omega), w64 (n := s + 1) (by omega) (by omega), ih k _ _ g1 (by omega) (by omega) (by omega) (by omega) (by omega)]
   congr 1; omega
 intro k hk
 unfold impl_valuation.f vz
 by_cases h0 : n = 0
 ·
  rw [if_pos h0, if_pos h0]
 ·
  have hle := vl_le63 hp h0 (by omega)
  rw [if_neg h0, if_neg h0, go (vl p n) k n 0 h0 hb rfl (by omega) (by omega) (by omega)]
  congr 1; omega

theorem pw_bd (p k : Int) (hp : Pr p) (h : k ≤ 20) : 1 ≤ pw p k ∧ pw p k ≤ 79792266297612001 := by
 have h1 := pw_pos2 hp k
 have h2 := pw_le hp h
 have h3 : pw p 20 ≤ 79792266297612001 := by
  rcases hp with rfl | rfl | rfl | rfl <;> decide +kernel
 omega
theorem pw_bd12 (p k : Int) (hp : Pr p) (h : k ≤ 12) : 1 ≤ pw p k ∧ pw p k ≤ 13841287201 := by
 have h1 := pw_pos2 hp k
 have h2 := pw_le hp h
 have h3 : pw p 12 ≤ 13841287201 := by
  rcases hp with rfl | rfl | rfl | rfl <;> decide +kernel
 omega
theorem pw_bd6 (p k : Int) (hp : Pr p) (h : k ≤ 6) : 1 ≤ pw p k ∧ pw p k ≤ 117649 := by
 have h1 := pw_pos2 hp k
 have h2 := pw_le hp h
 have h3 : pw p 6 ≤ 117649 := by
  rcases hp with rfl | rfl | rfl | rfl <;> decide +kernel
 omega
theorem pw_succ (p k : Int) (h : 0 ≤ k) : pw p (k + 1) = pw p k * p := by
 rw [pw_add h (by omega), pw_one]

theorem l01Power_eq (p n : Int) (hp : Pr p) (h : n ≤ 20) (h0 : -9223372036854775808 ≤ n) : ∀ k, 30 ≤ k → spec_l01Power.f k p n = some (pw p n) := by
 have hp2 := hp.pos
 have go : ∀ (d k : Nat) (n out j : Int), n = d → 0 ≤ j → j + d ≤ 20 → d < k → out = pw p j → spec_l01Power.l0 k p n out = some (pw p (j + d)) := by
  intro d
  induction d with
  | zero =>
   intro k n out j hn hj hs hk ho
   obtain ⟨k, rfl⟩ : ∃ m, k = m + 1 := ⟨k - 1, by omega⟩
   simp only [spec_l01Power.l0]
   rw [if_neg (by omega), ho]; simp
  | succ d ih =>
   intro k n out j hn hj hs hk ho
   obtain ⟨k, rfl⟩ : ∃ m, k = m + 1 := ⟨k - 1, by omega⟩
   simp only [spec_l01Power.l0]
   have hb := pw_bd p (j + 1) hp (by omega)
   have hs1 := pw_succ p j hj
   rw [if_pos (by omega), w64 (n := n - 1) (by omega) (by omega), ho, ← hs1, w64 (by omega) (by omega), ih k (n - 1) _ (j + 1) (by omega) (by omega) (by omega) (by omega) rfl]
   congr 2; omega
 intro k hk
 unfold spec_l01Power.f
 by_cases h1 : n ≤ 0
 ·
  obtain ⟨k, rfl⟩ : ∃ m, k = m + 1 := ⟨k - 1, by omega⟩
  simp only [spec_l01Power.l0]
  rw [if_neg (by omega)]
  simp [pw, show n.toNat = 0 by omega]
 ·
  rw [go n.toNat k n 1 0 (by omega) (by omega) (by omega) (by omega) (by simp [pw])]
  congr 2; omega

theorem power_eq (p n : Int) (hp : Pr p) (h : n ≤ 20) : ∀ k, 30 ≤ k → impl_power.f k p n = some (pw p n) := by
 have hp2 := hp.pos
 have go : ∀ (d k : Nat) (n out j : Int), n = j + d → 0 ≤ j → n ≤ 20 → d < k → out = pw p j → impl_power.l0 k p out n j = some (pw p n) := by
  intro d
  induction d with
  | zero =>
   intro k n out j hn hj hs hk ho
   obtain ⟨k, rfl⟩ : ∃ m, k = m + 1 := ⟨k - 1, by omega⟩
   simp only [impl_power.l0]
   rw [if_neg (by omega), ho]
   congr 2; omega
  | succ d ih =>
   intro k n out j hn hj hs hk ho
   obtain ⟨k, rfl⟩ : ∃ m, k = m + 1 := ⟨k - 1, by omega⟩
   simp only [impl_power.l0]
   have hb := pw_bd p (j + 1) hp (by omega)
   have hs1 := pw_succ p j hj
   rw [if_pos (by omega), w64 (n := j + 1) (by omega) (by omega), ho, ← hs1, w64 (by omega) (by omega), ih k n _ (j + 1) (by omega) (by omega) (by omega) (by omega) rfl]
 intro k hk
 unfold impl_power.f
 by_cases h1 : n ≤ 0
 ·
  obtain ⟨k, rfl⟩ : ∃ m, k = m + 1 := ⟨k - 1, by omega⟩
  simp only [impl_power.l0]
  rw [if_neg (by omega)]
  simp [pw, show n.toNat = 0 by omega]
 ·
  rw [go n.toNat k n 1 0 (by omega) (by omega) (by omega) (by omega) (by simp [pw])]

theorem mx_neg (a : Int) (h : a.natAbs ≤ 9223372036854775807) : mx a (wrap64 (-a)) = (a.natAbs : Int) := by
 rw [w64 (by omega) (by omega)]; unfold mx; split <;> omega
theorem gcd_tmod (a b : Int) : Int.gcd b (a.tmod b) = Int.gcd a b := by
 have h := Int.gcd_add_mul_left_right b (a.tmod b) (a.tdiv b)
 rw [Int.tmod_add_mul_tdiv] at h
 rw [Int.gcd_comm a b]; exact h.symm

theorem l01Gcd_eq (a b : Int) (ha : a.natAbs ≤ 9223372036854775807) (hb : b.natAbs ≤ 9223372036854775807) : ∃ K, ∀ k, K ≤ k → spec_l01Gcd.f k a b = some (Int.gcd a b : Int) := by
 have go : ∀ (d k : Nat) (a b : Int), a.natAbs ≤ 9223372036854775807 → b.natAbs ≤ 9223372036854775807 → b.natAbs ≤ d → d < k → spec_l01Gcd.l0 k a b = some (Int.gcd a b : Int) := by
  intro d
  induction d with
  | zero =>
   intro k a b ha hb0 hb hk
   obtain ⟨k, rfl⟩ : ∃ m, k = m + 1 := ⟨k - 1, by omega⟩
   obtain rfl : b = 0 := by omega
   simp only [spec_l01Gcd.l0]
   rw [if_pos trivial, mx_neg a ha, Int.gcd_zero_right]
  | succ d ih =>
   intro k a b ha hb0 hb hk
   obtain ⟨k, rfl⟩ : ∃ m, k = m + 1 := ⟨k - 1, by omega⟩
   simp only [spec_l01Gcd.l0]
   by_cases h : b = 0
   ·
    rw [if_pos h, mx_neg a ha, h, Int.gcd_zero_right]
   ·
    rw [if_neg h, ih k b (a.tmod b) hb0 (by
     have : (a.tmod b).natAbs < b.natAbs := by rw [Int.natAbs_tmod]; exact Nat.mod_lt _ (by omega)
     omega) (by
     have : (a.tmod b).natAbs < b.natAbs := by rw [Int.natAbs_tmod]; exact Nat.mod_lt _ (by omega)
     omega) (by omega), gcd_tmod]
 exact ⟨b.natAbs + 1, fun k hk => by unfold spec_l01Gcd.f; exact go b.natAbs k a b ha hb (Nat.le_refl _) (by omega)⟩

theorem gcd_eq (a b : Int) (ha : a.natAbs ≤ 9223372036854775807) (hb : b.natAbs ≤ 9223372036854775807) : ∃ K, ∀ k, K ≤ k → impl_gcd.f k a b = some (Int.gcd a b : Int) := by
 have go : ∀ (d k : Nat) (a b : Int), a.natAbs ≤ 9223372036854775807 → b.natAbs ≤ 9223372036854775807 → b.natAbs ≤ d → d < k → impl_gcd.l0 k a b = some (Int.gcd a b : Int) := by
  intro d
  induction d with
  | zero =>
   intro k a b ha hb0 hb hk
   obtain ⟨k, rfl⟩ : ∃ m, k = m + 1 := ⟨k - 1, by omega⟩
   obtain rfl : b = 0 := by omega
   simp only [impl_gcd.l0]
   rw [if_pos trivial, mx_neg a ha, Int.gcd_zero_right]
  | succ d ih =>
   intro k a b ha hb0 hb hk
   obtain ⟨k, rfl⟩ : ∃ m, k = m + 1 := ⟨k - 1, by omega⟩
   simp only [impl_gcd.l0]
   by_cases h : b = 0
   ·
    rw [if_pos h, mx_neg a ha, h, Int.gcd_zero_right]
   ·
    rw [if_neg h, ih k b (a.tmod b) hb0 (by
     have : (a.tmod b).natAbs < b.natAbs := by rw [Int.natAbs_tmod]; exact Nat.mod_lt _ (by omega)
     omega) (by
     have : (a.tmod b).natAbs < b.natAbs := by rw [Int.natAbs_tmod]; exact Nat.mod_lt _ (by omega)
     omega) (by omega), gcd_tmod]
 exact ⟨b.natAbs + 1, fun k hk => by unfold impl_gcd.f; exact go b.natAbs k a b ha hb (Nat.le_refl _) (by omega)⟩

theorem okSplit (p : Int) (lv top dn : Int) : PM.Ok p ⟨lv, top, dn⟩ ↔ (-6 ≤ lv ∧ lv ≤ 6 ∧ 0 ≤ dn ∧ dn ≤ 6) ∧ ((lv + dn ≤ 0 ∧ top = 0 ∧ dn = 0) ∨ (0 < lv + dn ∧ 0 ≤ top ∧ top < pw p (lv + dn) ∧ (dn = 0 ∨ ¬ p ∣ top))) := by
 unfold PM.Ok; simp only; constructor
 ·
  intro ⟨a, b, c, d, e⟩; exact ⟨⟨a, b, c, d⟩, e⟩
 ·
  intro ⟨⟨a, b, c, d⟩, e⟩; exact ⟨a, b, c, d, e⟩
theorem l01Is_eq (p lv top dn : Int) : ∀ k, 32 ≤ k → spec_l01Is.f k p lv top dn = some (decide (Pr p ∧ PM.Ok p ⟨lv, top, dn⟩)) := by
 intro k hk
 obtain ⟨k, rfl⟩ : ∃ m, k = m + 1 := ⟨k - 1, by omega⟩
 have jt : spec_l01Is.j0 (k + 1) p true lv top dn = some false := by simp [spec_l01Is.j0]
 unfold spec_l01Is.f
 rcases prime_cases p with ⟨h, hp⟩ | ⟨h, hp⟩
 ·
  have hp : Pr p := hp
  rw [h, in_eq, in_eq]
  simp only [Option.bind_some, if_true]
  by_cases h1 : -6 ≤ lv ∧ lv ≤ 6
  ·
   rw [decide_eq_true h1, if_pos rfl]
   by_cases h2 : 0 ≤ dn ∧ dn ≤ 6
   ·
    rw [decide_eq_true h2]
    simp only [Bool.not_true, spec_l01Is.j0]
    rw [if_neg (by simp), w64 (by omega) (by omega)]
    by_cases h3 : lv + dn ≤ 0
    ·
     rw [if_pos h3]
     by_cases h4 : top = 0
     ·
      rw [if_pos h4]
      congr 1; rw [Bool.eq_iff_iff]
      simp only [decide_eq_true_eq, okSplit, beq_iff_eq]
      constructor
      ·
       intro h5; exact ⟨hp, ⟨by omega, Or.inl ⟨h3, h4, h5⟩⟩⟩
      ·
       intro ⟨_, _, h5⟩; omega
     ·
      rw [if_neg h4, decide_eq_false]
      rw [okSplit]; intro ⟨_, _, h5⟩; omega
    ·
     rw [if_neg h3, l01Power_eq p _ hp (by omega) (by omega) k (by omega)]
     have hb := pw_bd12 p (lv + dn) hp (by omega)
     simp only [Option.bind_some]
     rw [in_eq, w64 (by omega) (by omega)]
     simp only [Option.bind_some]
     by_cases h4 : 0 ≤ top ∧ top ≤ pw p (lv + dn) - 1
     ·
      rw [decide_eq_true h4, if_pos rfl]
      by_cases h5 : dn = 0
      ·
       rw [if_pos h5, decide_eq_true]
       rw [okSplit]; exact ⟨hp, by omega, Or.inr ⟨by omega, by omega, by omega, Or.inl h5⟩⟩
      ·
       have hp2 := hp.pos
       rw [if_neg h5, if_neg (by omega)]
       congr 1; rw [Bool.eq_iff_iff]
       simp only [decide_eq_true_eq, okSplit, bne_iff_ne, ne_eq, tmod_zero_iff]
       constructor
       ·
        intro h6; exact ⟨hp, by omega, Or.inr ⟨by omega, by omega, by omega, Or.inr h6⟩⟩
       ·
        intro ⟨_, _, h6⟩ h7
        rcases h6 with h6 | ⟨_, _, _, h6⟩
        ·
         omega
        ·
         rcases h6 with h6 | h6
         ·
          exact h5 h6
         ·
          exact h6 h7
     ·
      rw [decide_eq_false h4, if_neg (by simp), decide_eq_false]
      rw [okSplit]; intro ⟨_, _, h5⟩; omega
   ·
    rw [decide_eq_false h2, Bool.not_false, jt, decide_eq_false]
    rw [okSplit]; intro ⟨_, h5, _⟩; omega
  ·
   rw [decide_eq_false h1, if_neg (by simp), jt, decide_eq_false]
   rw [okSplit]; intro ⟨_, h5, _⟩; omega
 ·
  rw [h]
  simp only [Option.bind_some]
  rw [if_neg (by simp), jt, decide_eq_false]
  intro ⟨h1, _⟩; exact hp h1

theorem isLevel_eq (n : Int) : impl_isLevel.f n = some (decide (-6 ≤ n ∧ n ≤ 6)) := by
 unfold impl_isLevel.f
 by_cases h : -6 ≤ n
 ·
  rw [if_pos h]; simp [h]
 ·
  rw [if_neg (by omega)]; simp [h]
theorem IsBall_eq (p lv top dn : Int) : ∀ k, 32 ≤ k → impl_IsBall.f k p lv top dn = some (decide (Pr p ∧ PM.Ok p ⟨lv, top, dn⟩)) := by
 intro k hk
 obtain ⟨k, rfl⟩ : ∃ m, k = m + 1 := ⟨k - 1, by omega⟩
 have jt : impl_IsBall.j0 (k + 1) p true lv top dn = some false := by simp [impl_IsBall.j0]
 unfold impl_IsBall.f
 rw [isPrime_eq]
 rcases prime_cases p with ⟨h, hp⟩ | ⟨h, hp⟩
 ·
  have hp : Pr p := hp
  rw [h, isLevel_eq]
  simp only [Option.bind_some, if_true]
  by_cases h1 : -6 ≤ lv ∧ lv ≤ 6
  ·
   rw [decide_eq_true h1, if_pos rfl]
   by_cases h2 : dn < 0
   ·
    rw [if_pos h2, jt, decide_eq_false]
    rw [okSplit]; intro ⟨_, h5, _⟩; omega
   ·
    rw [if_neg h2]
    by_cases h2' : dn > 6
    ·
     rw [decide_eq_true h2', jt, decide_eq_false]
     rw [okSplit]; intro ⟨_, h5, _⟩; omega
    ·
     rw [decide_eq_false h2']
     simp only [impl_IsBall.j0]
     rw [if_neg (by simp), w64 (by omega) (by omega)]
     by_cases h3 : lv + dn ≤ 0
     ·
      rw [if_pos h3]
      by_cases h4 : top = 0
      ·
       rw [if_pos h4]
       congr 1; rw [Bool.eq_iff_iff]
       simp only [decide_eq_true_eq, okSplit, beq_iff_eq]
       constructor
       ·
        intro h5; exact ⟨hp, ⟨by omega, Or.inl ⟨h3, h4, h5⟩⟩⟩
       ·
        intro ⟨_, _, h5⟩; omega
      ·
       rw [if_neg h4, decide_eq_false]
       rw [okSplit]; intro ⟨_, _, h5⟩; omega
     ·
      rw [if_neg h3]
      have hb := pw_bd12 p (lv + dn) hp (by omega)
      by_cases h4 : top ≥ 0
      ·
       rw [if_pos h4, power_eq p _ hp (by omega) k (by omega)]
       simp only [Option.bind_some]
       by_cases h4' : top < pw p (lv + dn)
       ·
        rw [if_pos h4']
        by_cases h5 : dn = 0
        ·
         rw [if_pos h5, decide_eq_true]
         rw [okSplit]; exact ⟨hp, by omega, Or.inr ⟨by omega, by omega, by omega, Or.inl h5⟩⟩
        ·
         have hp2 := hp.pos
         rw [if_neg h5, if_neg (by omega)]
         congr 1; rw [Bool.eq_iff_iff]
         simp only [decide_eq_true_eq, okSplit, bne_iff_ne, ne_eq, tmod_zero_iff]
         constructor
         ·
          intro h6; exact ⟨hp, by omega, Or.inr ⟨by omega, by omega, by omega, Or.inr h6⟩⟩
         ·
          intro ⟨_, _, h6⟩ h7
          rcases h6 with h6 | ⟨_, _, _, h6⟩
          ·
           omega
          ·
           rcases h6 with h6 | h6
           ·
            exact h5 h6
           ·
            exact h6 h7
       ·
        rw [if_neg h4', decide_eq_false]
        rw [okSplit]; intro ⟨_, _, h5⟩; omega
      ·
       rw [if_neg h4, decide_eq_false]
       rw [okSplit]; intro ⟨_, _, h5⟩; omega
  ·
   rw [decide_eq_false h1, if_neg (by simp), jt, decide_eq_false]
   rw [okSplit]; intro ⟨_, h5, _⟩; omega
 ·
  rw [h]
  simp only [Option.bind_some]
  rw [if_neg (by simp), jt, decide_eq_false]
  intro ⟨h1, _⟩; exact hp h1

def bOk (p : Int) (x : S39) : Bool := decide (PM.Ok p ⟨x.f0, x.f1, x.f2⟩)
theorem rdB (l : List S39) (i : Nat) (h : i < l.length) : rd_T39 l (i : Int) = l[i]'h := by
 unfold rd_T39; simp [List.getD_eq_getElem?_getD, h]

theorem l01Code_eq (p : Int) (l : List S39) (hl : l.length ≤ 1000) : ∃ K, ∀ k, K ≤ k → spec_l01Code.f k p l = some (if Pr p ∧ l.all (bOk p) = true then 0 else 1) := by
 rcases prime_cases p with ⟨h, hp⟩ | ⟨h, hp⟩
 ·
  have hp : Pr p := hp
  have go : ∀ (d i k : Nat), i + d = l.length → d + 34 ≤ k → spec_l01Code.l0 k p l i = some (if (l.drop i).all (bOk p) = true then 0 else 1) := by
   intro d
   induction d with
   | zero =>
    intro i k hi hk
    obtain ⟨k, rfl⟩ : ∃ m, k = m + 1 := ⟨k - 1, by omega⟩
    simp only [spec_l01Code.l0]
    rw [if_neg (by omega), List.drop_eq_nil_of_le (by omega)]; rfl
   | succ d ih =>
    intro i k hi hk
    obtain ⟨k, rfl⟩ : ∃ m, k = m + 1 := ⟨k - 1, by omega⟩
    simp only [spec_l01Code.l0]
    rw [if_pos (by omega), if_pos (by omega), rdB l i (by omega), l01Is_eq _ _ _ _ k (by omega), all_drop (bOk p) l i (by omega), w64 (by omega) (by omega), show ((i : Int) + 1) = ((i + 1 : Nat) : Int) from by omega, ih (i + 1) k (by omega) (by omega)]
    simp only [Option.bind_some]
    show _ = some (if (decide (PM.Ok _ _) && _) = true then _ else _)
    by_cases h : PM.Ok p ⟨(l[i]'(by omega)).f0, (l[i]'(by omega)).f1, (l[i]'(by omega)).f2⟩
    ·
     rw [decide_eq_true h, decide_eq_true ⟨hp, h⟩]; simp
    ·
     rw [decide_eq_false h, decide_eq_false (fun g => h g.2)]; simp
  refine ⟨l.length + 34, fun k hk => ?_⟩
  unfold spec_l01Code.f
  rw [h]
  simp only [Option.bind_some, if_true]
  have := go l.length 0 k (by omega) (by omega)
  rw [show ((0 : Nat) : Int) = 0 from rfl, List.drop_zero] at this
  rw [this]
  by_cases g : l.all (bOk p) = true
  ·
   rw [if_pos g, if_pos ⟨hp, g⟩]
  ·
   rw [if_neg g, if_neg (fun z => g z.2)]
 ·
  refine ⟨0, fun k _ => ?_⟩
  unfold spec_l01Code.f
  rw [h]
  simp only [Option.bind_some]
  rw [if_neg (by simp), if_neg (fun z => hp z.1)]

theorem mul_bd2 {a b : Int} (A B : Int) (h1 : -A ≤ a) (h2 : a ≤ A) (h3 : -B ≤ b) (h4 : b ≤ B) : -(A * B) ≤ a * b ∧ a * b ≤ A * B := by
 have hA : 0 ≤ A := by omega
 have hB : 0 ≤ B := by omega
 have h : (a * b).natAbs ≤ A.natAbs * B.natAbs := by
  rw [Int.natAbs_mul]; exact Nat.mul_le_mul (by omega) (by omega)
 rw [← Int.natAbs_mul] at h
 have : 0 ≤ A * B := Int.mul_nonneg hA hB
 omega
theorem mn_min (a b : Int) : mn a b = min a b := by unfold mn; split <;> omega
theorem mx_max (a b : Int) : mx a b = max a b := by unfold mx; split <;> omega
theorem okb {p lv top dn : Int} (h : PM.Ok p ⟨lv, top, dn⟩) : -6 ≤ lv ∧ lv ≤ 6 ∧ 0 ≤ dn ∧ dn ≤ 6 ∧ 0 ≤ top := by
 unfold PM.Ok at h; simp only at h; omega
theorem mark_bd12 {p lv top dn : Int} (hp : Pr p) (h : PM.Ok p ⟨lv, top, dn⟩) : 0 ≤ PM.mark p ⟨lv, top, dn⟩ ∧ PM.mark p ⟨lv, top, dn⟩ ≤ 13841287201 := by
 have hb := okb h
 have := PM.mark_bd hp h
 have := pw_bd12 p (lv + 6) hp (by omega)
 simp only at *; omega

theorem mark_eq {p lv top dn : Int} (hp : Pr p) (h : PM.Ok p ⟨lv, top, dn⟩) : ∀ k, 30 ≤ k → impl_mark.f k p lv top dn = some (PM.mark p ⟨lv, top, dn⟩) := by
 intro k hk
 have hb := okb h
 have hm := mark_bd12 hp h
 unfold impl_mark.f
 rw [w64 (n := 6 - dn) (by omega) (by omega), power_eq p _ hp (by omega) k hk]
 simp only [Option.bind_some]
 unfold PM.mark at hm ⊢
 simp only at hm ⊢
 rw [w64 (by omega) (by omega)]

theorem u64w (n : Int) : IntKind.u64.wrap n = n % 18446744073709551616 := by rw [IntKind.wrap_u64]
theorem u64s {n : Int} (h0 : 0 ≤ n) (h1 : n < 18446744073709551616) : IntKind.u64.wrap n = n := by rw [u64w]; omega
theorem and_low {a : Int} (h0 : 0 ≤ a) (h1 : a < 18446744073709551616) : Go.bits .and .u64 a 4294967295 = a % 4294967296 := by
 obtain ⟨n, rfl⟩ := Int.eq_ofNat_of_zero_le h0
 rw [show (4294967295 : Int) = ((4294967295 : Nat) : Int) from rfl, Go.bits_and_u64_nat n 4294967295 (by omega) (by omega)]
 rw [show (4294967295 : Nat) = 2 ^ 32 - 1 from rfl, Nat.and_two_pow_sub_one_eq_mod]
 omega
theorem or_sum {a b : Int} (s : Nat) (h0 : 0 ≤ a) (h1 : 0 ≤ b) (h2 : b < 2 ^ s) (h3 : a * 2 ^ s < 18446744073709551616) (hs : s ≤ 63) : Go.bits .or .u64 (a * 2 ^ s) b = a * 2 ^ s + b := by
 obtain ⟨n, rfl⟩ := Int.eq_ofNat_of_zero_le h0
 obtain ⟨m, rfl⟩ := Int.eq_ofNat_of_zero_le h1
 have e2 : m < 2 ^ s := by
  have : ((2 ^ s : Nat) : Int) = (2 : Int) ^ s := by simp
  omega
 have e3 : (2 : Nat) ^ s ≤ 2 ^ 63 := Nat.pow_le_pow_right (by omega) hs
 have e4 : ((n * 2 ^ s : Nat) : Int) = (n : Int) * 2 ^ s := by simp
 rw [← e4] at h3 ⊢
 rw [Go.bits_or_u64_nat _ _ (by omega) (by omega), Nat.mul_comm, ← Nat.two_pow_add_eq_or_of_lt e2]
 omega
theorem bitLen_bd : ∀ (x : Nat), x ≠ 0 → x < 2 ^ 64 → 1 ≤ Lib.bitLen x ∧ 2 ^ (Lib.bitLen x - 1) ≤ x ∧ x < 2 ^ Lib.bitLen x := by
 intro x
 induction x using Nat.strongRecOn with
 | _ x ih =>
  intro h0 h1
  rw [Lib.bitLen_half x h0 h1]
  by_cases h2 : x / 2 = 0
  ·
   rw [h2, show Lib.bitLen 0 = 0 from rfl]
   have : x = 1 := by omega
   subst this; exact ⟨by omega, by decide, by decide⟩
  ·
   obtain ⟨a, b, c⟩ := ih (x / 2) (by omega) h2 (by omega)
   obtain ⟨l, hl⟩ : ∃ l, Lib.bitLen (x / 2) = l + 1 := ⟨Lib.bitLen (x / 2) - 1, by omega⟩
   rw [hl] at b c ⊢
   rw [show 1 + (l + 1) - 1 = (l + 1 - 1) + 1 by omega, show 1 + (l + 1) = (l + 1) + 1 by omega, Nat.pow_succ, Nat.pow_succ]
   omega
theorem div_l0 {yN s y1 y0 U u un0 : Int} (D : Dg U u y1 y0) : ∀ (m : Nat) (q r : Int) (k : Nat), 2 * m + 3 ≤ k → 4294967296 ≤ r + m * 2147483648 → 0 ≤ r → r < 4294967296 → r = U - q * y1 → dig U u y1 y0 ≤ q → q ≤ 4294967297 → ∃ k', k ≤ k' + (2 * m + 3) ∧ bits_Div64.l0 k yN s y1 y0 U u un0 q r = bits_Div64.j2 k' yN s y1 y0 U u un0 (dig U u y1 y0) := by
 intro m
 induction m with
 | zero => intro q r k _ h _ h2; omega
 | succ m ih =>
  intro q r k hk hm h0 h1 hr hq hq2
  have hn := D.nn
  have Da := D.a; have Db := D.b; have Dc := D.c; have Dd := D.d; have Dg := D.g; have Dh := D.h
  obtain ⟨k, rfl⟩ : ∃ j, k = j + 2 := ⟨k - 2, by omega⟩
  have e : bits_Div64.l0 (k + 2) yN s y1 y0 U u un0 q r = bits_Div64.j1 (k + 1) yN s y1 y0 U u un0 q r (decide (dig U u y1 y0 < q)) := by
   rw [show k + 2 = (k + 1) + 1 from rfl, bits_Div64.l0]
   by_cases hB : q ≥ 4294967296
   ·
    rw [if_pos hB, decide_eq_true (by have := D.top; omega)]
   ·
    rw [if_neg hB]
    have hc := D.cond hr
    have b1 : q * y0 ≤ 4294967295 * 4294967295 := Int.mul_le_mul (by omega) (by omega) (by omega) (by omega)
    have b0 : 0 ≤ q * y0 := Int.mul_nonneg (by omega) (by omega)
    rw [u64s (n := q * y0) b0 (by omega), u64s (n := 4294967296 * r) (by omega) (by omega), u64s (n := 4294967296 * r + u) (by omega) (by omega)]
    rw [decide_eq_decide.mpr hc.symm]
  rw [e, bits_Div64.j1]
  by_cases hc : dig U u y1 y0 < q
  ·
   rw [decide_eq_true hc, if_pos rfl, u64s (n := r + y1) (by omega) (by omega), u64s (n := q - 1) (by omega) (by omega)]
   have hr' : r + y1 = U - (q - 1) * y1 := by rw [Int.sub_mul]; omega
   by_cases hb : r + y1 ≥ 4294967296
   ·
    rw [if_pos hb]
    have := D.brk hr' hb (by omega)
    exact ⟨k, by omega, by rw [show q - 1 = dig U u y1 y0 by omega]⟩
   ·
    rw [if_neg hb]
    obtain ⟨k', a, b⟩ := ih (q - 1) (r + y1) k (by omega) (by omega) (by omega) (by omega) hr' (by omega) (by omega)
    exact ⟨k', by omega, b⟩
  ·
   rw [decide_eq_false hc, if_neg (by simp)]
   exact ⟨k, by omega, by rw [show q = dig U u y1 y0 by omega]⟩
theorem div_l1 {yN s y1 y0 R un0 q1 : Int} (hs : 0 ≤ s) (D : Dg R un0 y1 y0) : ∀ (m : Nat) (q r : Int) (k : Nat), 2 * m + 3 ≤ k → 4294967296 ≤ r + m * 2147483648 → 0 ≤ r → r < 4294967296 → r = R - q * y1 → dig R un0 y1 y0 ≤ q → q ≤ 4294967297 → bits_Div64.l1 k yN s y1 y0 un0 q1 r R q = some (IntKind.u64.wrap ((IntKind.u64.wrap (q1 * 4294967296)) + dig R un0 y1 y0), shr .u64 (IntKind.u64.wrap ((IntKind.u64.wrap ((IntKind.u64.wrap (R * 4294967296)) + un0)) - (IntKind.u64.wrap (dig R un0 y1 y0 * yN)))) s) := by
 intro m
 induction m with
 | zero => intro q r k _ h _ h2; omega
 | succ m ih =>
  intro q r k hk hm h0 h1 hr hq hq2
  have hn := D.nn
  have Da := D.a; have Db := D.b; have Dc := D.c; have Dd := D.d; have Dg := D.g; have Dh := D.h
  obtain ⟨k, rfl⟩ : ∃ j, k = j + 2 := ⟨k - 2, by omega⟩
  have e : bits_Div64.l1 (k + 2) yN s y1 y0 un0 q1 r R q = bits_Div64.j4 (k + 1) yN s y1 y0 un0 q1 r R q (decide (dig R un0 y1 y0 < q)) := by
   rw [show k + 2 = (k + 1) + 1 from rfl, bits_Div64.l1]
   by_cases hB : q ≥ 4294967296
   ·
    rw [if_pos hB, decide_eq_true (by have := D.top; omega)]
   ·
    rw [if_neg hB]
    have hc := D.cond hr
    have b1 : q * y0 ≤ 4294967295 * 4294967295 := Int.mul_le_mul (by omega) (by omega) (by omega) (by omega)
    have b0 : 0 ≤ q * y0 := Int.mul_nonneg (by omega) (by omega)
    rw [u64s (n := q * y0) b0 (by omega), u64s (n := 4294967296 * r) (by omega) (by omega), u64s (n := 4294967296 * r + un0) (by omega) (by omega)]
    rw [decide_eq_decide.mpr hc.symm]
  rw [e, bits_Div64.j4]
  by_cases hc : dig R un0 y1 y0 < q
  ·
   rw [decide_eq_true hc, if_pos rfl, u64s (n := r + y1) (by omega) (by omega), u64s (n := q - 1) (by omega) (by omega)]
   have hr' : r + y1 = R - (q - 1) * y1 := by rw [Int.sub_mul]; omega
   by_cases hb : r + y1 ≥ 4294967296
   ·
    rw [if_pos hb, if_pos hs]
    have := D.brk hr' hb (by omega)
    rw [show q - 1 = dig R un0 y1 y0 by omega]
   ·
    rw [if_neg hb]
    exact ih (q - 1) (r + y1) k (by omega) (by omega) (by omega) (by omega) hr' (by omega) (by omega)
  ·
   rw [decide_eq_false hc, if_neg (by simp), if_pos hs, show q = dig R un0 y1 y0 by omega]
theorem wr_sub (a b : Int) : IntKind.u64.wrap (IntKind.u64.wrap a - IntKind.u64.wrap b) = IntKind.u64.wrap (a - b) := by
 simp only [u64w]; omega
theorem wr_add (a b : Int) : IntKind.u64.wrap (IntKind.u64.wrap a + b) = IntKind.u64.wrap (a + b) := by
 simp only [u64w]; omega
theorem div64_eq {hi lo y : Int} (h0 : 0 ≤ hi) (h1 : hi < y) (h2 : y < 18446744073709551616) (h3 : 0 ≤ lo) (h4 : lo < 18446744073709551616) : ∀ k, 40 ≤ k → bits_Div64.f k hi lo y = some ((hi * 18446744073709551616 + lo) / y, (hi * 18446744073709551616 + lo) % y) := by
 intro k hk
 unfold bits_Div64.f
 rw [if_neg (by omega), if_neg (by omega)]
 by_cases hz : hi = 0
 ·
  subst hz
  rw [if_pos rfl, Int.tdiv_eq_ediv_of_nonneg h3, Int.tmod_eq_emod_of_nonneg h3]
  have a1 := Int.ediv_nonneg h3 (show 0 ≤ y by omega)
  have a2 := Int.ediv_le_self y h3
  rw [u64s a1 (by omega), show (0 : Int) * 18446744073709551616 + lo = lo by omega]
 ·
  rw [if_neg hz]
  have hb := bitLen_bd y.toNat (by omega) (by omega)
  have hle : Lib.bitLen y.toNat ≤ 64 := by
   rcases Nat.lt_or_ge 64 (Lib.bitLen y.toNat) with h | h
   ·
    have := Nat.pow_le_pow_right (show 0 < 2 by omega) (show 64 ≤ Lib.bitLen y.toNat - 1 by omega)
    omega
   ·
    exact h
  unfold bits_LeadingZeros64.f
  rw [if_pos (by omega)]
  simp only [Option.bind_some]
  obtain ⟨s, hs⟩ : ∃ s : Nat, s = 64 - Lib.bitLen y.toNat := ⟨_, rfl⟩
  rw [show (64 - (Lib.bitLen y.toNat : Int)) = (s : Int) by omega, u64s (n := (s : Int)) (by omega) (by omega), u64s (n := 64 - (s : Int)) (by omega) (by omega), if_pos (by omega), if_pos (by omega)]
  have hs63 : s ≤ 63 := by omega
  obtain ⟨P, hP⟩ : ∃ P : Int, P = 2 ^ s := ⟨_, rfl⟩
  obtain ⟨Q, hQ⟩ : ∃ Q : Int, Q = 2 ^ (64 - s) := ⟨_, rfl⟩
  have hPQ : P * Q = 18446744073709551616 := by
   rw [hP, hQ, ← Int.pow_add, show s + (64 - s) = 64 by omega]; decide
  have hP0 : 0 < P := by rw [hP]; exact Int.pow_pos (by omega)
  have hQ0 : 0 < Q := by rw [hQ]; exact Int.pow_pos (by omega)
  have hyP : 9223372036854775808 ≤ y * P ∧ y * P < 18446744073709551616 := by
   have e1 : y = ((y.toNat : Nat) : Int) := by omega
   have e2 : y * P = ((y.toNat * 2 ^ s : Nat) : Int) := by
    rw [hP]
    conv => lhs; rw [e1]
    simp
   have e3 : 2 ^ (Lib.bitLen y.toNat - 1) * 2 ^ s ≤ y.toNat * 2 ^ s := Nat.mul_le_mul_right _ hb.2.1
   have e4 : y.toNat * 2 ^ s < 2 ^ (Lib.bitLen y.toNat) * 2 ^ s := Nat.mul_lt_mul_of_pos_right hb.2.2 (Nat.pow_pos (by omega))
   rw [← Nat.pow_add, show Lib.bitLen y.toNat - 1 + s = 63 by omega] at e3
   rw [← Nat.pow_add, show Lib.bitLen y.toNat + s = 64 by omega] at e4
   rw [e2]; omega
  have sh : ∀ x : Int, shl .u64 x (s : Int) = (x * P) % 18446744073709551616 := by
   intro x; unfold shl
   rw [show IntKind.u64.bits = 64 from rfl, Int.toNat_natCast, Nat.min_eq_left (by omega), u64w, hP]
  have sr : ∀ x : Int, shr .u64 x (64 - (s : Int)) = x / Q := by
   intro x; unfold shr
   rw [show IntKind.u64.bits = 64 from rfl, show (64 - (s : Int)).toNat = 64 - s by omega, Nat.min_eq_left (by omega), hQ]
  have sr2 : ∀ x : Int, shr .u64 x (s : Int) = x / P := by
   intro x; unfold shr
   rw [show IntKind.u64.bits = 64 from rfl, Int.toNat_natCast, Nat.min_eq_left (by omega), hP]
  have hhi : hi * P < y * P := Int.mul_lt_mul_of_pos_right h1 hP0
  have hhi0 : 0 ≤ hi * P := Int.mul_nonneg h0 (by omega)
  have hhi1 : hi * P ≤ y * P - P := by
   have := Int.mul_le_mul_of_nonneg_right (show hi ≤ y - 1 by omega) (Int.le_of_lt hP0)
   rw [Int.sub_mul] at this; omega
  have hlQ0 : 0 ≤ lo / Q := Int.ediv_nonneg h3 (by omega)
  have hlQ : lo / Q < P := by rw [Int.ediv_lt_iff_lt_mul hQ0]; omega
  rw [sh, sh, sh, sr, Int.emod_eq_of_lt (a := y * P) (by omega) hyP.2, Int.emod_eq_of_lt (a := hi * P) hhi0 (by omega)]
  have hor : Go.bits .or .u64 (hi * P) (lo / Q) = hi * P + lo / Q := by
   rw [hP] at hlQ hhi hyP ⊢
   exact or_sum s h0 hlQ0 hlQ (by omega) hs63
  rw [hor, and_low (a := y * P) (by omega) hyP.2, and_low (Int.emod_nonneg _ (by omega)) (Int.emod_lt_of_pos _ (by omega))]
  obtain ⟨L, hL⟩ : ∃ L, L = (lo * P) % 18446744073709551616 := ⟨_, rfl⟩
  obtain ⟨U, hU⟩ : ∃ U, U = hi * P + lo / Q := ⟨_, rfl⟩
  have hL0 : 0 ≤ L := by rw [hL]; exact Int.emod_nonneg _ (by omega)
  have hL1 : L < 18446744073709551616 := by rw [hL]; exact Int.emod_lt_of_pos _ (by omega)
  rw [← hL, ← hU]
  obtain ⟨yN, hyN⟩ : ∃ yN, yN = y * P := ⟨_, rfl⟩
  rw [← hyN] at hyP hhi hhi1 ⊢
  obtain ⟨y1, hy1⟩ : ∃ y1, y1 = yN / 4294967296 := ⟨_, rfl⟩
  obtain ⟨y0, hy0⟩ : ∃ y0, y0 = yN % 4294967296 := ⟨_, rfl⟩
  obtain ⟨u1, hu1⟩ : ∃ u1, u1 = L / 4294967296 := ⟨_, rfl⟩
  obtain ⟨u0, hu0⟩ : ∃ u0, u0 = L % 4294967296 := ⟨_, rfl⟩
  rw [← hy1, ← hy0, ← hu1, ← hu0]
  have hyy : y1 * 4294967296 + y0 = yN := by omega
  have D1 : Dg U u1 y1 y0 := ⟨by omega, by omega, by omega, by omega, by omega, by omega, by omega, by omega⟩
  have hy1p : 0 < y1 := by omega
  have hU0 : 0 ≤ U := by omega
  obtain ⟨st1, st2⟩ := D1.start
  have em1 := Int.mul_ediv_add_emod U y1
  have em2 := Int.emod_nonneg U (b := y1) (by omega)
  have em3 := Int.emod_lt_of_pos U hy1p
  have hq0 := Int.ediv_nonneg hU0 (Int.le_of_lt hy1p)
  rw [Int.tdiv_eq_ediv_of_nonneg hU0, u64s (n := U / y1) hq0 (by omega)]
  have hqy : U / y1 * y1 = U - U % y1 := by rw [Int.mul_comm]; omega
  have hqn := Int.mul_nonneg hq0 (Int.le_of_lt hy1p)
  rw [u64s (n := U / y1 * y1) (by omega) (by omega), u64s (n := U - U / y1 * y1) (by omega) (by omega), if_neg (by omega)]
  obtain ⟨k', hk', e⟩ := div_l0 (yN := yN) (s := (s : Int)) (un0 := u0) D1 2 (U / y1) (U - U / y1 * y1) k (by omega) (by omega) (by omega) (by omega) rfl st1 st2
  rw [e]
  obtain ⟨k', rfl⟩ : ∃ j, k' = j + 1 := ⟨k' - 1, by omega⟩
  rw [bits_Div64.j2, if_neg (by omega)]
  have hT := D1.nn
  have hTt := D1.top
  have hrem := D1.rem
  rw [hyy] at hrem
  obtain ⟨R, hR⟩ : ∃ R, R = U * 4294967296 + u1 - dig U u1 y1 y0 * yN := ⟨_, rfl⟩
  have hW : IntKind.u64.wrap ((IntKind.u64.wrap ((IntKind.u64.wrap (U * 4294967296)) + u1)) - (IntKind.u64.wrap (dig U u1 y1 y0 * yN))) = R := by
   rw [wr_add, wr_sub, ← hR, u64s (by omega) (by omega)]
  rw [hW]
  rw [← hR] at hrem
  have D2 : Dg R u0 y1 y0 := ⟨by omega, by omega, by omega, by omega, by omega, by omega, by omega, by omega⟩
  obtain ⟨st3, st4⟩ := D2.start
  have en1 := Int.mul_ediv_add_emod R y1
  have en2 := Int.emod_nonneg R (b := y1) (by omega)
  have en3 := Int.emod_lt_of_pos R hy1p
  have hq3 := Int.ediv_nonneg hrem.1 (Int.le_of_lt hy1p)
  rw [Int.tdiv_eq_ediv_of_nonneg hrem.1, u64s (n := R / y1) hq3 (by omega)]
  have hqz : R / y1 * y1 = R - R % y1 := by rw [Int.mul_comm]; omega
  have hqm := Int.mul_nonneg hq3 (Int.le_of_lt hy1p)
  rw [u64s (n := R / y1 * y1) (by omega) (by omega), u64s (n := R - R / y1 * y1) (by omega) (by omega)]
  rw [div_l1 (by omega) D2 2 (R / y1) (R - R / y1 * y1) k' (by omega) (by omega) (by omega) (by omega) rfl st3 st4]
  have hT2 := D2.nn
  have hTt2 := D2.top
  have hrem2 := D2.rem
  rw [hyy] at hrem2
  obtain ⟨R2, hR2⟩ : ∃ R2, R2 = R * 4294967296 + u0 - dig R u0 y1 y0 * yN := ⟨_, rfl⟩
  have hW2 : IntKind.u64.wrap ((IntKind.u64.wrap ((IntKind.u64.wrap (R * 4294967296)) + u0)) - (IntKind.u64.wrap (dig R u0 y1 y0 * yN))) = R2 := by
   rw [wr_add, wr_sub, ← hR2, u64s (by omega) (by omega)]
  rw [hW2, sr2]
  rw [← hR2] at hrem2
  have h2d := two_digits hR hR2
  rw [show u1 * 4294967296 + u0 = L by omega, hyN] at h2d
  rw [hyN] at hrem2
  obtain ⟨f1, f2⟩ := normal hP0 hQ0 hPQ hU hL h2d hrem2.1 hrem2.2
  rw [u64s (n := dig U u1 y1 y0 * 4294967296) (by omega) (by omega), u64s (by omega) (by omega), f1, f2]

theorem power_eq2 (p n : Int) (hp : Pr p) (h : n ≤ 62) (h1 : pw p n ≤ 4611686018427387904) (h0 : -9223372036854775808 ≤ n) : ∀ k, 70 ≤ k → impl_power.f k p n = some (pw p n) := by
 have hp2 := hp.pos
 have hle : ∀ j : Int, j ≤ n → 1 ≤ pw p j ∧ pw p j ≤ 4611686018427387904 := fun j hj => by
  have := pw_le hp hj; have := pw_pos2 hp j; omega
 have go : ∀ (d k : Nat) (out j : Int), n = j + d → 0 ≤ j → d < k → out = pw p j → impl_power.l0 k p out n j = some (pw p n) := by
  intro d
  induction d with
  | zero =>
   intro k out j hn hj hk ho
   obtain ⟨k, rfl⟩ : ∃ m, k = m + 1 := ⟨k - 1, by omega⟩
   simp only [impl_power.l0]
   rw [if_neg (by omega), ho]
   congr 2; omega
  | succ d ih =>
   intro k out j hn hj hk ho
   obtain ⟨k, rfl⟩ : ∃ m, k = m + 1 := ⟨k - 1, by omega⟩
   simp only [impl_power.l0]
   have hb := hle (j + 1) (by omega)
   have hs1 := pw_succ p j hj
   rw [if_pos (by omega), w64 (n := j + 1) (by omega) (by omega), ho, ← hs1, w64 (by omega) (by omega), ih k _ (j + 1) (by omega) (by omega) (by omega) rfl]
 intro k hk
 unfold impl_power.f
 by_cases h1 : n ≤ 0
 ·
  obtain ⟨k, rfl⟩ : ∃ m, k = m + 1 := ⟨k - 1, by omega⟩
  simp only [impl_power.l0]
  rw [if_neg (by omega)]
  simp [pw, show n.toNat = 0 by omega]
 ·
  rw [go n.toNat k 1 0 (by omega) (by omega) (by omega) (by simp [pw])]

theorem l01Power_eq2 (p n : Int) (hp : Pr p) (h : n ≤ 62) (h1 : pw p n ≤ 4611686018427387904) (h0 : -9223372036854775808 ≤ n) : ∀ k, 70 ≤ k → spec_l01Power.f k p n = some (pw p n) := by
 have hp2 := hp.pos
 have hle : ∀ j : Int, j ≤ n → 1 ≤ pw p j ∧ pw p j ≤ 4611686018427387904 := fun j hj => by
  have := pw_le hp hj; have := pw_pos2 hp j; omega
 have go : ∀ (d k : Nat) (m out j : Int), m = d → n = j + d → 0 ≤ j → d < k → out = pw p j → spec_l01Power.l0 k p m out = some (pw p n) := by
  intro d
  induction d with
  | zero =>
   intro k m out j hm hn hj hk ho
   obtain ⟨k, rfl⟩ : ∃ m, k = m + 1 := ⟨k - 1, by omega⟩
   simp only [spec_l01Power.l0]
   rw [if_neg (by omega), ho]
   congr 2; omega
  | succ d ih =>
   intro k m out j hm hn hj hk ho
   obtain ⟨k, rfl⟩ : ∃ m, k = m + 1 := ⟨k - 1, by omega⟩
   simp only [spec_l01Power.l0]
   have hb := hle (j + 1) (by omega)
   have hs1 := pw_succ p j hj
   rw [if_pos (by omega), w64 (n := m - 1) (by omega) (by omega), ho, ← hs1, w64 (by omega) (by omega), ih k (m - 1) _ (j + 1) (by omega) (by omega) (by omega) (by omega) rfl]
 intro k hk
 unfold spec_l01Power.f
 by_cases h1 : n ≤ 0
 ·
  obtain ⟨k, rfl⟩ : ∃ m, k = m + 1 := ⟨k - 1, by omega⟩
  simp only [spec_l01Power.l0]
  rw [if_neg (by omega)]
  simp [pw, show n.toNat = 0 by omega]
 ·
  rw [go n.toNat k n 1 0 (by omega) (by omega) (by omega) (by omega) (by simp [pw])]

theorem tmod_fix (a m : Int) (hm : 0 < m) : (a.tmod m + m).tmod m = a % m ∧ -m < a.tmod m ∧ a.tmod m < m := by
 have h1 := Int.tmod_lt_of_pos a hm
 have h2 := Int.lt_tmod_of_pos a hm
 have h3 := Int.mul_tdiv_add_tmod a m
 refine ⟨?_, h2, h1⟩
 rw [Int.tmod_eq_emod_of_nonneg (by omega)]
 rw [show a.tmod m + m = a + m * (1 - a.tdiv m) by rw [Int.mul_sub]; omega, Int.add_mul_emod_self_left]
theorem em_mul (a b m : Int) : (a % m * b) % m = a * b % m := by rw [Int.mul_emod, Int.emod_emod, ← Int.mul_emod]
theorem emb (a m : Int) (hm : 0 < m) : 0 ≤ a % m ∧ a % m < m := ⟨Int.emod_nonneg _ (by omega), Int.emod_lt_of_pos _ hm⟩

theorem mod_eq (a m : Int) (hm : 0 < m) (h2 : m ≤ 4611686018427387904) : impl_mod.f a m = some (a % m) := by
 obtain ⟨e, h3, h4⟩ := tmod_fix a m hm
 unfold impl_mod.f
 rw [if_neg (by omega), w64 (by omega) (by omega), e]

theorem times_eq (a b m : Int) (hm : 0 < m) (h2 : m ≤ 4611686018427387904) : ∀ k, 40 ≤ k → impl_times.f k a b m = some (a * b % m) := by
 intro k hk
 obtain ⟨ha0, ha1⟩ := emb a m hm
 obtain ⟨hb0, hb1⟩ := emb b m hm
 unfold impl_times.f
 rw [mod_eq a m hm h2, mod_eq b m hm h2]
 simp only [Option.bind_some]
 rw [u64s ha0 (by omega), u64s hb0 (by omega), u64s (n := m) (by omega) (by omega)]
 unfold bits_Mul64.f
 rw [if_pos (by omega)]
 simp only [Option.bind_some]
 obtain ⟨P, hP⟩ : ∃ P, P = a % m * (b % m) := ⟨_, rfl⟩
 have hP0 : 0 ≤ P := by rw [hP]; exact Int.mul_nonneg ha0 hb0
 rw [← hP]
 have hq : 0 ≤ P / 18446744073709551616 := Int.ediv_nonneg hP0 (by omega)
 rw [if_neg (by omega), Int.tmod_eq_emod_of_nonneg hq]
 obtain ⟨c0, c1⟩ := emb (P / 18446744073709551616) m hm
 obtain ⟨d0, d1⟩ := emb P 18446744073709551616 (by omega)
 rw [div64_eq c0 c1 (by omega) d0 d1 k hk]
 simp only [Option.bind_some]
 have e : (P / 18446744073709551616 % m * 18446744073709551616 + P % 18446744073709551616) % m = a * b % m := by
  rw [Int.add_emod, em_mul, ← Int.add_emod, show P / 18446744073709551616 * 18446744073709551616 + P % 18446744073709551616 = P by omega, hP, ← Int.mul_emod]
 rw [e]
 obtain ⟨f0, f1⟩ := emb (a * b) m hm
 rw [w64 (by omega) (by omega)]

theorem l01MulMod_eq (a b m : Int) (hm : 0 < m) (h2 : m ≤ 13841287201) : spec_l01MulMod.f a b m = some (a * b % m) := by
 obtain ⟨e1, h3, h4⟩ := tmod_fix a m hm
 obtain ⟨e2, h5, h6⟩ := tmod_fix b m hm
 obtain ⟨ha0, ha1⟩ := emb a m hm
 obtain ⟨hb0, hb1⟩ := emb b m hm
 unfold spec_l01MulMod.f
 rw [if_neg (by omega), w64 (n := a.tmod m + m) (by omega) (by omega), w64 (n := b.tmod m + m) (by omega) (by omega), e1, e2]
 have em : a * b % m = (a % m) * (b % m) % m := Int.mul_emod a b m
 rw [em]
 generalize a % m = x at *
 generalize b % m = y at *
 rw [Int.tdiv_eq_ediv_of_nonneg hb0, Int.tmod_eq_emod_of_nonneg hb0]
 have m1 := mul_bd2 (a := x) (b := y / 1000000) 13841287201 13842 (by omega) (by omega) (by omega) (by omega)
 have m2 := mul_bd2 (a := x) (b := y % 1000000) 13841287201 1000000 (by omega) (by omega) (by omega) (by omega)
 have n1 : 0 ≤ x * (y / 1000000) := Int.mul_nonneg ha0 (by omega)
 have n2 : 0 ≤ x * (y % 1000000) := Int.mul_nonneg ha0 (by omega)
 rw [w64 (n := y / 1000000) (by omega) (by omega), w64 (n := x * (y / 1000000)) (by omega) (by omega), Int.tmod_eq_emod_of_nonneg n1, w64 (n := x * (y % 1000000)) (by omega) (by omega), Int.tmod_eq_emod_of_nonneg n2]
 obtain ⟨c0, c1⟩ := emb (x * (y / 1000000)) m hm
 obtain ⟨d0, d1⟩ := emb (x * (y % 1000000)) m hm
 rw [w64 (n := x * (y / 1000000) % m * 1000000) (by omega) (by omega), Int.tmod_eq_emod_of_nonneg (a := x * (y / 1000000) % m * 1000000) (by omega)]
 obtain ⟨f0, f1⟩ := emb (x * (y / 1000000) % m * 1000000) m hm
 rw [w64 (by omega) (by omega), Int.tmod_eq_emod_of_nonneg (a := x * (y / 1000000) % m * 1000000 % m + x * (y % 1000000) % m) (by omega)]
 rw [em_mul, ← Int.add_emod]
 congr 2
 have : y = y / 1000000 * 1000000 + y % 1000000 := by omega
 conv => rhs; rw [this]
 rw [Int.mul_add, Int.mul_assoc]

theorem inverse_eq (n m : Int) (hm : 0 < m) (h2 : m ≤ 1099511627776) : ∀ k, m.toNat + 4 ≤ k → impl_inverse.f k n m = some (inv n m) := by
 have go : ∀ (j : Nat) (n a b x y : Int) (k : Nat), Inv n m a b x y → b < j → a ≤ m → b ≤ m → x.natAbs ≤ m → y.natAbs ≤ m → j < k → impl_inverse.l0 k m a b x y = some (invF j a b x y % m) := by
  intro j
  induction j with
  | zero => intro n a b x y k h hb; have := h.b0; omega
  | succ j ih =>
   intro n a b x y k h hb ham hbm hx hy hk
   obtain ⟨k, rfl⟩ : ∃ i, k = i + 1 := ⟨k - 1, by omega⟩
   have a0 := h.a0; have b0 := h.b0
   simp only [impl_inverse.l0, invF]
   by_cases z : b = 0
   ·
    rw [if_pos z, if_pos z]
    rw [mod_eq x m hm (by omega)]; rfl
   ·
    rw [if_neg z, if_neg z]
    have hb1 : 0 < b := by omega
    obtain ⟨i1, i2, i3, i4⟩ := h.bd
    obtain ⟨i5, i6⟩ := i4 hb1
    have hs := h.step z
    obtain ⟨j1, j2, j3, j4⟩ := hs.bd
    have hy' := j2 hb1
    have hq : 0 ≤ a / b := Int.ediv_nonneg a0 b0
    have hq2 := Int.ediv_le_self b a0
    have hr : a - a / b * b = a % b := by rw [Int.emod_def, Int.mul_comm b]
    obtain ⟨r0, r1⟩ := emb a b hb1
    have hay : (a / b * y).natAbs ≤ m := by
     rw [Int.natAbs_mul]
     have : ((a / b).natAbs * y.natAbs : Nat) = a / b * (y.natAbs : Int) := by
      rw [Int.natCast_mul, Int.natAbs_of_nonneg hq]
     omega
    rw [Int.tdiv_eq_ediv_of_nonneg a0, w64 (n := a / b) (by omega) (by omega), w64 (n := a / b * b) (by omega) (by omega), w64 (n := a - a / b * b) (by omega) (by omega), w64 (n := a / b * y) (by omega) (by omega), w64 (n := x - a / b * y) (by omega) (by omega)]
    exact ih n b (a - a / b * b) y (x - a / b * y) k hs (by omega) hbm (by omega) hy (by omega) (by omega)
 intro k hk
 obtain ⟨h0, h1⟩ := emb n m hm
 unfold impl_inverse.f inv
 rw [mod_eq n m hm (by omega)]
 simp only [Option.bind_some]
 exact go (m.toNat + 2) (n % m) (n % m) m 1 0 k (Inv.start h0 (by omega)) (by omega) (by omega) (by omega) (by omega) (by omega) (by omega)

theorem l01InvMod_eq (n m : Int) (hm : 0 < m) (h2 : m ≤ 1099511627776) : ∀ k, m.toNat + 4 ≤ k → spec_l01InvMod.f k n m = some (inv n m) := by
 have go : ∀ (j : Nat) (n a b x y : Int) (k : Nat), Inv n m a b x y → b < j → a ≤ m → b ≤ m → x.natAbs ≤ m → y.natAbs ≤ m → j < k → spec_l01InvMod.l0 k m a b x y = some (invF j a b x y % m) := by
  intro j
  induction j with
  | zero => intro n a b x y k h hb; have := h.b0; omega
  | succ j ih =>
   intro n a b x y k h hb ham hbm hx hy hk
   obtain ⟨k, rfl⟩ : ∃ i, k = i + 1 := ⟨k - 1, by omega⟩
   have a0 := h.a0; have b0 := h.b0
   simp only [spec_l01InvMod.l0, invF]
   by_cases z : b = 0
   ·
    rw [if_pos z, if_pos z]
    obtain ⟨e, h3, h4⟩ := tmod_fix x m hm
    rw [if_neg (by omega), w64 (by omega) (by omega), e]
   ·
    rw [if_neg z, if_neg z]
    have hb1 : 0 < b := by omega
    obtain ⟨i1, i2, i3, i4⟩ := h.bd
    obtain ⟨i5, i6⟩ := i4 hb1
    have hs := h.step z
    obtain ⟨j1, j2, j3, j4⟩ := hs.bd
    have hy' := j2 hb1
    have hq : 0 ≤ a / b := Int.ediv_nonneg a0 b0
    have hq2 := Int.ediv_le_self b a0
    have hr : a - a / b * b = a % b := by rw [Int.emod_def, Int.mul_comm b]
    obtain ⟨r0, r1⟩ := emb a b hb1
    have hay : (a / b * y).natAbs ≤ m := by
     rw [Int.natAbs_mul]
     have : ((a / b).natAbs * y.natAbs : Nat) = a / b * (y.natAbs : Int) := by
      rw [Int.natCast_mul, Int.natAbs_of_nonneg hq]
     omega
    rw [Int.tdiv_eq_ediv_of_nonneg a0, w64 (n := a / b) (by omega) (by omega), w64 (n := a / b * b) (by omega) (by omega), w64 (n := a - a / b * b) (by omega) (by omega), w64 (n := a / b * y) (by omega) (by omega), w64 (n := x - a / b * y) (by omega) (by omega)]
    exact ih n b (a - a / b * b) y (x - a / b * y) k hs (by omega) hbm (by omega) hy (by omega) (by omega)
 intro k hk
 obtain ⟨h0, h1⟩ := emb n m hm
 unfold spec_l01InvMod.f inv
 obtain ⟨e, h3, h4⟩ := tmod_fix n m hm
 rw [if_neg (by omega), w64 (by omega) (by omega), e]
 exact go (m.toNat + 2) (n % m) (n % m) m 1 0 k (Inv.start h0 (by omega)) (by omega) (by omega) (by omega) (by omega) (by omega) (by omega)

theorem pwvl {p n : Int} (hp : Pr p) (h : n ≠ 0) : 0 < pw p (vl p n) ∧ pw p (vl p n) ≤ (n.natAbs : Int) := by
 refine ⟨pw_pos2 hp _, ?_⟩
 have := Int.le_of_dvd (by omega) (Int.dvd_natAbs.mpr (pw_vl_dvd hp h))
 exact this
theorem un_div {p n : Int} (hp : Pr p) (h : n ≠ 0) : n.tdiv (pw p (vl p n)) = un p n := by
 unfold un; rw [vz_of_ne h, Int.tdiv_eq_ediv_of_dvd (pw_vl_dvd hp h)]
theorem un_bd {p n : Int} (hp : Pr p) (h : n ≠ 0) : (un p n).natAbs ≤ n.natAbs := by
 obtain ⟨e, _⟩ := un_spec hp h
 have h1 := pwvl hp h
 have : n.natAbs = (pw p (vl p n)).natAbs * (un p n).natAbs := by rw [← Int.natAbs_mul, ← e]
 rw [this]
 exact Nat.le_mul_of_pos_left _ (by omega)

theorem unit_eq (p n : Int) (hp : Pr p) (h : n ≠ 0) (hb : n.natAbs ≤ 4611686018427387904) : ∀ k, 70 ≤ k → impl_unit.f k p n = some (un p n) := by
 intro k hk
 have h1 := pwvl hp h
 have h2 := vl_le63 hp h (by omega)
 have h3 := vl_le hp h (k := 63) (by
  have : (2 : Nat) ^ 63 = 9223372036854775808 := by decide
  omega)
 have h4 := un_bd hp h
 unfold impl_unit.f
 rw [valuation_eq p n hp (by omega) k hk, vz_of_ne h]
 simp only [Option.bind_some]
 rw [power_eq2 p _ hp (by omega) (by omega) (by omega) k hk]
 simp only [Option.bind_some]
 rw [if_neg (by omega), un_div hp h, w64 (by omega) (by omega)]

def enc : Option PM.Ball → Int × Int × Int × Bool
 | none => (0, 0, 0, false)
 | some b => (b.lv, b.top, b.dn, true)
theorem isLevel_eq' (n : Int) : impl_isLevel.f n = some (decide (PM.inLv n)) := by
 unfold impl_isLevel.f PM.inLv
 congr 1
 by_cases h1 : n ≥ -6 <;> by_cases h2 : n ≤ 6 <;> simp [h1, h2] <;> omega
theorem ofMark_eq {p lv x : Int} (hp : Pr p) : ∀ k, 70 ≤ k → impl_ofMark.f k p lv x = some (enc (if PM.inLv lv then some (PM.mk p lv (x % pw p (lv + 6))) else none)) := by
 intro k hk
 unfold impl_ofMark.f
 rw [isLevel_eq']
 simp only [Option.bind_some]
 by_cases hl : PM.inLv lv
 ·
  have hl' := hl
  unfold PM.inLv at hl'
  have hb := pw_bd12 p (lv + 6) hp (by omega)
  obtain ⟨r0, r1⟩ := emb x (pw p (lv + 6)) (by omega)
  rw [decide_eq_true hl, if_pos rfl, if_pos hl, w64 (n := lv + 6) (by omega) (by omega), power_eq p _ hp (by omega) k (by omega)]
  simp only [Option.bind_some]
  rw [mod_eq x _ (by omega) (by omega)]
  simp only [Option.bind_some]
  generalize x % pw p (lv + 6) = y at *
  rw [valuation_eq p y hp (by omega) k hk]
  simp only [Option.bind_some]
  have hz : 0 ≤ vz p y ∧ vz p y ≤ 1000 := by
   refine ⟨PM.vz_nonneg _ _, ?_⟩
   unfold vz
   by_cases y0 : y = 0
   ·
    rw [if_pos y0]; omega
   ·
    rw [if_neg y0]; have := vl_le63 hp y0 (by omega); omega
  simp only [mx_max]
  rw [w64 (n := 6 - vz p y) (by omega) (by omega), w64 (n := 6 - max (6 - vz p y) 0) (by omega) (by omega), power_eq p _ hp (by omega) k (by omega)]
  simp only [Option.bind_some]
  have hq := pw_bd6 p (6 - max (6 - vz p y) 0) hp (by omega)
  have hd := Int.ediv_le_self (pw p (6 - max (6 - vz p y) 0)) r0
  have hd0 := Int.ediv_nonneg r0 (show 0 ≤ pw p (6 - max (6 - vz p y) 0) by omega)
  rw [if_neg (by omega), Int.tdiv_eq_ediv_of_nonneg r0, w64 (by omega) (by omega)]
  simp only [enc, PM.mk]
 ·
  rw [decide_eq_false hl, if_neg (by simp), if_neg hl]; rfl

theorem vz_bd {p n : Int} (hp : Pr p) (h : n.natAbs ≤ 9223372036854775807) : 0 ≤ vz p n ∧ vz p n ≤ 1000 := by
 refine ⟨PM.vz_nonneg _ _, ?_⟩
 unfold vz
 by_cases y0 : n = 0
 ·
  rw [if_pos y0]; omega
 ·
  rw [if_neg y0]; have := vl_le63 hp y0 (by omega); omega
theorem ballAt_eq {p n d lv : Int} (hp : Pr p) (hd : d ≠ 0) (hn : n.natAbs ≤ 4611686018427387904) (hdb : d.natAbs ≤ 4611686018427387904) : ∀ k, 13841287300 ≤ k → impl_ballAt.f k p n d lv = some (enc (PM.ballAt p n d lv)) := by
 intro k hk
 obtain ⟨k, rfl⟩ : ∃ j, k = j + 1 := ⟨k - 1, by omega⟩
 unfold impl_ballAt.f PM.ballAt
 rw [isLevel_eq']
 simp only [Option.bind_some]
 by_cases hl : PM.inLv lv
 ·
  have hl' := hl
  unfold PM.inLv at hl'
  have hb := pw_bd12 p (lv + 6) hp (by omega)
  have b1 := vz_bd hp (n := n) (by omega)
  have b2 := vz_bd hp (n := d) (by omega)
  rw [decide_eq_true hl, if_pos rfl, if_neg (fun z => z hl), valuation_eq p n hp (by omega) _ (by omega), valuation_eq p d hp (by omega) _ (by omega)]
  simp only [Option.bind_some, impl_ballAt.j0]
  rw [w64 (n := vz p n - vz p d) (by omega) (by omega)]
  by_cases z : n = 0
  ·
   rw [if_pos z, if_pos trivial, if_pos (Or.inl z)]; rfl
  ·
   rw [if_neg z]
   by_cases c : vz p n - vz p d ≥ lv
   ·
    rw [decide_eq_true c, if_pos rfl, if_pos (Or.inr c)]; rfl
   ·
    rw [decide_eq_false c, if_neg (by simp), if_neg (show ¬ (n = 0 ∨ lv ≤ vz p n - vz p d) from fun y => y.elim z c)]
    by_cases e : vz p n - vz p d < -6
    ·
     rw [if_pos e, if_pos e]; rfl
    ·
     rw [if_neg e, if_neg e, w64 (n := lv + 6) (by omega) (by omega), w64 (n := vz p n - vz p d + 6) (by omega) (by omega), power_eq p (lv + 6) hp (by omega) k (by omega), unit_eq p n hp z hn k (by omega), unit_eq p d hp hd hdb k (by omega)]
     simp only [Option.bind_some]
     rw [inverse_eq _ _ (by omega) (by omega) k (by omega)]
     simp only [Option.bind_some]
     rw [times_eq _ _ _ (by omega) (by omega) k (by omega)]
     simp only [Option.bind_some]
     rw [power_eq p (vz p n - vz p d + 6) hp (by omega) k (by omega)]
     simp only [Option.bind_some]
     rw [times_eq _ _ _ (by omega) (by omega) k (by omega)]
     simp only [Option.bind_some]
     rw [ofMark_eq hp k (by omega), if_pos hl, Int.emod_emod]
     rfl
 ·
  rw [decide_eq_false hl, if_neg (by simp), if_pos hl]; rfl

theorem l01Of_eq {p n d lv : Int} (hp : Pr p) (hd : d ≠ 0) (hn : n.natAbs ≤ 4611686018427387904) (hdb : d.natAbs ≤ 4611686018427387904) : ∀ k, 13841287300 ≤ k → spec_l01Of.f k p n d lv = some (enc (PM.lOf p n d lv)) := by
 intro k hk
 unfold spec_l01Of.f PM.lOf
 rw [in_eq]
 simp only [Option.bind_some]
 by_cases hl : PM.inLv lv
 ·
  have hl' := hl
  unfold PM.inLv at hl'
  rw [decide_eq_true hl', if_pos rfl, if_neg (show ¬ ¬ PM.inLv lv from fun z => z hl)]
  by_cases z : n = 0
  ·
   rw [if_pos z, if_pos z]; rfl
  ·
   have v1 := vl_le63 hp z (by omega)
   have v2 := vl_le63 hp hd (by omega)
   have v3 := vl_le hp z (k := 63) (by
    have : (2 : Nat) ^ 63 = 9223372036854775808 := by decide
    omega)
   have v4 := vl_le hp hd (k := 63) (by
    have : (2 : Nat) ^ 63 = 9223372036854775808 := by decide
    omega)
   rw [if_neg z, if_neg z, val_eq p n hp z (by omega) k (by omega), val_eq p d hp hd (by omega) k (by omega), vz_of_ne z, vz_of_ne hd]
   simp only [Option.bind_some, mx_max]
   rw [w64 (n := (vl p n : Int) - vl p d) (by omega) (by omega), w64 (n := (vl p d : Int) - vl p n) (by omega) (by omega)]
   by_cases c : lv ≤ (vl p n : Int) - vl p d
   ·
    rw [if_pos c, if_pos c]; rfl
   ·
    rw [if_neg c, if_neg c]
    by_cases e : max ((vl p d : Int) - vl p n) 0 > 6
    ·
     rw [if_pos e, if_pos e]; rfl
    ·
     rw [if_neg e, if_neg (show ¬ 6 < max ((vl p d : Int) - vl p n) 0 from e)]
     have hb := pw_bd12 p (lv + max ((vl p d : Int) - vl p n) 0) hp (by omega)
     have p1 := pwvl hp z
     have p2 := pwvl hp hd
     have u1 := un_bd hp z
     have u2 := un_bd hp hd
     rw [w64 (n := lv + max ((vl p d : Int) - vl p n) 0) (by omega) (by omega), l01Power_eq p _ hp (by omega) (by omega) k (by omega), l01Power_eq2 p (vl p n) hp (by omega) (by omega) (by omega) k (by omega), l01Power_eq2 p (vl p d) hp (by omega) (by omega) (by omega) k (by omega)]
     simp only [Option.bind_some]
     rw [if_neg (by omega), if_neg (by omega), un_div hp z, un_div hp hd, w64 (n := un p n) (by omega) (by omega), w64 (n := un p d) (by omega) (by omega), l01InvMod_eq _ _ (by omega) (by omega) k (by omega)]
     simp only [Option.bind_some]
     rw [l01MulMod_eq _ _ _ (by omega) (by omega), l01Power_eq p (max ((vl p n : Int) - vl p d) 0) hp (by omega) (by omega) k (by omega)]
     simp only [Option.bind_some]
     rw [l01MulMod_eq _ _ _ (by omega) (by omega)]
     rfl
 ·
  rw [decide_eq_false (show ¬ (-6 ≤ lv ∧ lv ≤ 6) from hl), if_neg (by simp), if_pos hl]; rfl
theorem lOf_eq_ballAt {p n d lv : Int} (hp : Pr p) (hd : d ≠ 0) : PM.lOf p n d lv = PM.ballAt p n d lv := (PM.ballAt_eq_lOf hp hd).symm

theorem eqBalls (l : List S39) (hl : l.length ≤ 2000000000000) : ∀ k, l.length + 1 ≤ k → laws_eqBallS.f k l l = some true := by
 have go : ∀ (d k i : Nat), i + d = l.length → d < k → laws_eqBallS.l0 k l l i = some true := by
  intro d
  induction d with
  | zero =>
   intro k i h2 h3
   obtain ⟨k, rfl⟩ : ∃ m, k = m + 1 := ⟨k - 1, by omega⟩
   simp only [laws_eqBallS.l0]
   rw [if_neg (by omega)]
  | succ d ih =>
   intro k i h2 h3
   obtain ⟨k, rfl⟩ : ∃ m, k = m + 1 := ⟨k - 1, by omega⟩
   simp only [laws_eqBallS.l0, laws_eqBall.f]
   rw [if_pos (by omega), if_pos (by omega), if_pos (by omega), w64 (by omega) (by omega)]
   simp only [if_true, Option.bind_some]
   exact ih k (i + 1) (by omega) (by omega)
 intro k hk
 unfold laws_eqBallS.f
 rw [if_pos rfl]
 exact go l.length k 0 (by omega) (by omega)

theorem rdB2 (l : List S39) (i : Nat) (h : i < l.length) : rd_T39 l (i : Int) = l[i]'h := by
 simp [rd_T39, h]
theorem rdB3 (l : List S39) (i : Nat) (x : S39) (h : l[i]? = some x) : rd_T39 l (i : Int) = x := by
 obtain ⟨hi, e⟩ := List.getElem?_eq_some_iff.mp h
 rw [rdB2 l i hi]; exact e
theorem markBalls (l : List S39) (hl : l.length ≤ 2000000000000) : ∃ m : List S39, (∀ k, l.length + 1 ≤ k → laws_markBallS.f k l 1 = some (1 + 3 * (l.length : Int), m)) ∧ ∀ k, l.length + 1 ≤ k → laws_heldBallS.f k m 1 = some (1 + 3 * (l.length : Int)) := by
 have go : ∀ (d : Nat) (acc : List S39) (i : Nat), acc.length = l.length → i + d = l.length → (∀ j : Nat, j < i → acc[j]? = some ⟨1 + 3 * (j : Int), 2 + 3 * (j : Int), 3 + 3 * (j : Int)⟩) → ∃ m : List S39, (m.length = l.length ∧ ∀ j : Nat, j < l.length → m[j]? = some ⟨1 + 3 * (j : Int), 2 + 3 * (j : Int), 3 + 3 * (j : Int)⟩) ∧ ∀ k, d < k → laws_markBallS.l0 k acc (1 + 3 * (i : Int)) i = some (1 + 3 * (l.length : Int), m) := by
  intro d
  induction d with
  | zero =>
   intro acc i h1 h2 h4
   refine ⟨acc, ⟨h1, fun j hj => h4 j (by omega)⟩, fun k h3 => ?_⟩
   obtain ⟨k, rfl⟩ : ∃ m, k = m + 1 := ⟨k - 1, by omega⟩
   simp only [laws_markBallS.l0]
   rw [if_neg (by omega)]
   obtain rfl : i = l.length := by omega
   rfl
  | succ d ih =>
   intro acc i h1 h2 h4
   obtain ⟨m, hm, hk⟩ := ih (acc.set i ⟨1 + 3 * (i : Int), 2 + 3 * (i : Int), 3 + 3 * (i : Int)⟩) (i + 1) (by rw [List.length_set]; exact h1) (by omega) (fun j hj => by
    by_cases e : j = i
    ·
     subst e
     rw [List.getElem?_set_self (by omega)]
    ·
     rw [List.getElem?_set_ne (by omega)]
     exact h4 j (by omega))
   refine ⟨m, hm, fun k h3 => ?_⟩
   obtain ⟨k, rfl⟩ : ∃ m, k = m + 1 := ⟨k - 1, by omega⟩
   simp only [laws_markBallS.l0]
   rw [if_pos (by omega), if_pos (by omega), show ((i : Int).toNat) = i from by omega]
   simp only [Option.bind_some, List.set_set]
   rw [w64 (n := 1 + 3 * (i : Int) + 1) (by omega) (by omega), w64 (n := 1 + 3 * (i : Int) + 1 + 1) (by omega) (by omega), w64 (n := 1 + 3 * (i : Int) + 1 + 1 + 1) (by omega) (by omega), w64 (n := (i : Int) + 1) (by omega) (by omega)]
   have g : ∀ x : S39, rd_T39 (acc.set i x) (i : Int) = x := fun x => rdB3 _ _ _ (List.getElem?_set_self (by omega))
   simp only [g]
   have := hk k (by omega)
   rw [show (1 + 3 * (((i + 1 : Nat) : Int))) = 1 + 3 * (i : Int) + 1 + 1 + 1 from by omega, show (((i + 1 : Nat) : Int)) = (i : Int) + 1 from by omega] at this
   rw [show (1 + 3 * (i : Int) + 1 + 1) = 3 + 3 * (i : Int) by omega, show (1 + 3 * (i : Int) + 1) = 2 + 3 * (i : Int) by omega]
   rw [show (1 + 3 * (i : Int) + 1 + 1 + 1) = 3 + 3 * (i : Int) + 1 by omega] at this
   exact this
 obtain ⟨m, ⟨hm1, hm2⟩, hm3⟩ := go l.length l 0 rfl (by omega) (by intro j hj; omega)
 have ho : ∀ (d k i : Nat), i + d = m.length → d < k → laws_heldBallS.l0 k m (1 + 3 * (i : Int)) i = some (1 + 3 * (l.length : Int)) := by
  intro d
  induction d with
  | zero =>
   intro k i h2 h3
   obtain ⟨k, rfl⟩ : ∃ m, k = m + 1 := ⟨k - 1, by omega⟩
   simp only [laws_heldBallS.l0]
   rw [if_neg (by omega)]
   obtain rfl : i = l.length := by omega
   rfl
  | succ d ih =>
   intro k i h2 h3
   obtain ⟨k, rfl⟩ : ∃ m, k = m + 1 := ⟨k - 1, by omega⟩
   simp only [laws_heldBallS.l0]
   rw [rdB3 m i _ (hm2 i (by omega)), if_pos (by omega), if_pos (by omega), if_pos rfl]
   rw [w64 (n := 1 + 3 * (i : Int) + 1) (by omega) (by omega), w64 (n := 1 + 3 * (i : Int) + 1 + 1) (by omega) (by omega), w64 (n := 1 + 3 * (i : Int) + 1 + 1 + 1) (by omega) (by omega), w64 (n := (i : Int) + 1) (by omega) (by omega)]
   simp only
   rw [if_pos (by omega), if_pos (by omega)]
   have := ih k (i + 1) (by omega) (by omega)
   rw [show (1 + 3 * (((i + 1 : Nat) : Int))) = 1 + 3 * (i : Int) + 1 + 1 + 1 from by omega, show (((i + 1 : Nat) : Int)) = (i : Int) + 1 from by omega] at this
   exact this
 refine ⟨m, fun k hk => ?_, fun k hk => ?_⟩
 ·
  unfold laws_markBallS.f
  exact hm3 k (by omega)
 ·
  unfold laws_heldBallS.f
  exact ho m.length k 0 (by omega) (by omega)

/-- the next ball by a number: 0 for the parent -/
def nb (p : Int) (b : PM.Ball) (k : Int) : Option PM.Ball := if k = 0 then PM.about p (b.lv - 1) (PM.mark p b) else PM.about p (b.lv + 1) (PM.mark p b + (k - 1) * pw p (b.lv + 6))
theorem dets {a b c d : Int} (ha : a.natAbs ≤ 1000) (hb : b.natAbs ≤ 1000) (hc : c.natAbs ≤ 1000) (hd : d.natAbs ≤ 1000) : wrap64 (wrap64 (a * d) - wrap64 (b * c)) = a * d - b * c ∧ (a * d - b * c).natAbs ≤ 2000000 := by
 have h1 : (a * d).natAbs ≤ 1000000 := by rw [Int.natAbs_mul]; have := Nat.mul_le_mul ha hd; omega
 have h2 : (b * c).natAbs ≤ 1000000 := by rw [Int.natAbs_mul]; have := Nat.mul_le_mul hb hc; omega
 rw [w64 (n := a * d) (by omega) (by omega), w64 (n := b * c) (by omega) (by omega), w64 (by omega) (by omega)]
 exact ⟨rfl, by omega⟩
theorem l04Is_eq (a b c d : Int) : spec_l04Is.f a b c d = some (decide (PM.isM a b c d)) := by
 unfold spec_l04Is.f
 congr 1
 rw [Bool.eq_iff_iff]
 simp only [decide_eq_true_eq]
 unfold PM.isM
 constructor
 ·
  rintro ⟨h1, h2, h3, h4, h5⟩
  rw [(dets (a := a) (b := b) (c := c) (d := d) (by omega) (by omega) (by omega) (by omega)).1] at h5
  exact ⟨⟨h1, h2, h3, h4⟩, h5⟩
 ·
  rintro ⟨⟨h1, h2, h3, h4⟩, h5⟩
  refine ⟨h1, h2, h3, h4, ?_⟩
  rw [(dets (a := a) (b := b) (c := c) (d := d) (by omega) (by omega) (by omega) (by omega)).1]
  exact h5

theorem IsMatrix_eq (a b c d : Int) : ∃ K, ∀ k, K ≤ k → impl_IsMatrix.f k a b c d = some (decide (PM.isM a b c d)) := by
 obtain ⟨K, hw⟩ := within_eq 1000 (by omega) (by omega) [a, b, c, d] (by simp)
 have ew : allB 1000 [a, b, c, d] = decide ((-1000 ≤ a ∧ a ≤ 1000) ∧ (-1000 ≤ b ∧ b ≤ 1000) ∧ (-1000 ≤ c ∧ c ≤ 1000) ∧ (-1000 ≤ d ∧ d ≤ 1000)) := by simp [allB]
 refine ⟨K, fun k hk => ?_⟩
 unfold impl_IsMatrix.f
 rw [hw k hk, ew]
 simp only [Option.bind_some]
 by_cases h : (-1000 ≤ a ∧ a ≤ 1000) ∧ (-1000 ≤ b ∧ b ≤ 1000) ∧ (-1000 ≤ c ∧ c ≤ 1000) ∧ (-1000 ≤ d ∧ d ≤ 1000)
 ·
  rw [decide_eq_true h, if_pos rfl]
  unfold impl_determinant.f
  simp only [Option.bind_some]
  rw [(dets (a := a) (b := b) (c := c) (d := d) (by omega) (by omega) (by omega) (by omega)).1]
  congr 1
  rw [Bool.eq_iff_iff]
  simp only [bne_iff_ne, decide_eq_true_eq]
  unfold PM.isM
  exact ⟨fun z => ⟨h, z⟩, fun z => z.2⟩
 ·
  rw [decide_eq_false h, if_neg (by simp), decide_eq_false]
  exact fun z => h z.1

def mOk (x : S26) : Bool := decide (PM.isM x.f0.f0 x.f0.f1 x.f1.f0 x.f1.f1)
theorem rdM (l : List S26) (i : Nat) (h : i < l.length) : rd_T26 l (i : Int) = l[i]'h := by
 unfold rd_T26; simp [List.getD_eq_getElem?_getD, h]
theorem areMatrices_eq (l : List S26) (hl : l.length ≤ 10000000) : ∃ K, ∀ k, K ≤ k → impl_areMatrices.f k l = some (l.all mOk) := by
 have go : ∀ (d i : Nat), i + d = l.length → ∃ K, ∀ k, K ≤ k → impl_areMatrices.l0 k l l.length i = some ((l.drop i).all mOk) := by
  intro d
  induction d with
  | zero =>
   intro i hi
   refine ⟨1, fun k hk => ?_⟩
   obtain ⟨k, rfl⟩ : ∃ m, k = m + 1 := ⟨k - 1, by omega⟩
   simp only [impl_areMatrices.l0]
   rw [if_neg (by omega), List.drop_eq_nil_of_le (by omega)]; rfl
  | succ d ih =>
   intro i hi
   obtain ⟨K1, h1⟩ := ih (i + 1) (by omega)
   obtain ⟨K2, h2⟩ := IsMatrix_eq (l[i]'(by omega)).f0.f0 (l[i]'(by omega)).f0.f1 (l[i]'(by omega)).f1.f0 (l[i]'(by omega)).f1.f1
   refine ⟨K1 + K2 + 1, fun k hk => ?_⟩
   obtain ⟨k, rfl⟩ : ∃ m, k = m + 1 := ⟨k - 1, by omega⟩
   simp only [impl_areMatrices.l0]
   rw [if_pos (by omega), if_pos (by omega), if_pos (by omega), rdM l i (by omega), h2 k (by omega), all_drop mOk l i (by omega), w64 (by omega) (by omega), show ((i : Int) + 1) = ((i + 1 : Nat) : Int) from by omega, h1 k (by omega)]
   simp only [Option.bind_some]
   show _ = some (decide (PM.isM _ _ _ _) && _)
   by_cases h : PM.isM (l[i]'(by omega)).f0.f0 (l[i]'(by omega)).f0.f1 (l[i]'(by omega)).f1.f0 (l[i]'(by omega)).f1.f1
   ·
    rw [decide_eq_true h]; simp
   ·
    rw [decide_eq_false h]; simp
 obtain ⟨K, h⟩ := go l.length 0 (by omega)
 exact ⟨K, fun k hk => by have := h k hk; simpa [impl_areMatrices.f] using this⟩
/-- the reduced matrix, and whether it fits -/
def redT (a b c d : Int) : Int × Int × Int × Int × Bool := ((PM.red a b c d).1, (PM.red a b c d).2.1, (PM.red a b c d).2.2.1, (PM.red a b c d).2.2.2, decide (PM.isM (PM.red a b c d).1 (PM.red a b c d).2.1 (PM.red a b c d).2.2.1 (PM.red a b c d).2.2.2))
theorem gcd_le (a b : Int) : Int.gcd a b ≤ a.natAbs + b.natAbs := by
 by_cases h : a = 0
 ·
  subst h; simp
 ·
  have : Int.gcd a b ≤ a.natAbs := Nat.le_of_dvd (by omega) (Nat.gcd_dvd_left _ _)
  omega

theorem by_eq (a b : Int) {g : Int} (hg : g.natAbs ≤ 4611686018427387904) : impl_reduced.by_ a b g = g * PM.sg a b := by
 unfold impl_reduced.by_ impl_reduced.nb PM.sg
 by_cases h : a < 0 ∨ (a = 0 ∧ b < 0)
 ·
  rw [decide_eq_true h, if_pos rfl, if_pos h, w64 (by omega) (by omega)]; omega
 ·
  rw [decide_eq_false h, if_neg (by simp), if_neg h]; omega
theorem reduced_eq {a b c d : Int} (ha : a.natAbs ≤ 4000000) (hb : b.natAbs ≤ 4000000) (hc : c.natAbs ≤ 4000000) (hd : d.natAbs ≤ 4000000) (h : a * d - b * c ≠ 0) : ∃ K, ∀ k, K ≤ k → impl_reduced.f k a b c d = some (redT a b c d) := by
 have l1 := gcd_le a b
 have l2 := gcd_le c d
 obtain ⟨K1, h1⟩ := gcd_eq a b (by omega) (by omega)
 obtain ⟨K2, h2⟩ := gcd_eq c d (by omega) (by omega)
 obtain ⟨K3, h3⟩ := gcd_eq (Int.gcd a b : Int) (Int.gcd c d : Int) (by omega) (by omega)
 obtain ⟨K4, h4⟩ := IsMatrix_eq (PM.red a b c d).1 (PM.red a b c d).2.1 (PM.red a b c d).2.2.1 (PM.red a b c d).2.2.2
 have l3 := gcd_le (Int.gcd a b : Int) (Int.gcd c d : Int)
 refine ⟨K1 + K2 + K3 + K4, fun k hk => ?_⟩
 unfold impl_reduced.f
 rw [h1 k (by omega)]
 simp only [Option.bind_some]
 rw [h2 k (by omega)]
 simp only [Option.bind_some]
 rw [h3 k (by omega)]
 simp only [Option.bind_some]
 rw [by_eq a b (by omega), show (Int.gcd (Int.gcd a b : Int) (Int.gcd c d : Int) : Int) * PM.sg a b = PM.by4 a b c d from rfl]
 unfold impl_reduced.g
 have q : ∀ x : Int, x.natAbs ≤ 4000000 → wrap64 (x.tdiv (PM.by4 a b c d)) = x.tdiv (PM.by4 a b c d) := fun x hx => by
  have := PM.tdiv_abs_le x (PM.by4 a b c d)
  exact w64 (by omega) (by omega)
 rw [if_neg (PM.by4_ne h), q a ha, q b hb, q c hc, q d hd]
 have h5 := h4 k (by omega)
 unfold PM.red at h5
 simp only at h5
 rw [h5]
 rfl
theorem reduce_eq {a b c d : Int} (h : PM.isM a b c d) : ∃ K, ∀ k, K ≤ k → impl_reduce.f k a b c d = some (PM.red a b c d) := by
 have hb := PM.isM_bd h
 obtain ⟨K, hK⟩ := reduced_eq (a := a) (b := b) (c := c) (d := d) (by omega) (by omega) (by omega) (by omega) h.2
 refine ⟨K, fun k hk => ?_⟩
 unfold impl_reduce.f
 rw [hK k hk]; rfl

def sgx (s x : Int) : Int := if s = 0 then (if x = 0 then 0 else if x < 0 then -1 else 1) else s
theorem sgn_div {x : Int} (h : x ≠ 0) : x.tdiv (x.natAbs : Int) = if x < 0 then -1 else 1 := by
 by_cases h0 : x < 0
 ·
  rw [if_pos h0, Int.ofNat_natAbs_of_nonpos (by omega), Int.tdiv_neg, Int.tdiv_self h]
 ·
  rw [if_neg h0, Int.natAbs_of_nonneg (by omega), Int.tdiv_self h]
theorem l0_step {k : Nat} {L : List Int} {g g2 s i : Int} (h0 : 0 ≤ i) (h4 : i < 4) (hL : L.length = 4) (hx : (rd L i).natAbs ≤ 4000000) (hg : spec_l01Gcd.f k g ((rd L i).natAbs : Int) = some g2) :
  spec_l04Reduce.l0 (k + 1) L g s i = spec_l04Reduce.l0 k L g2 (sgx s (rd L i)) (i + 1) := by
 simp only [spec_l04Reduce.l0]
 rw [if_pos h4, if_pos h0, if_pos (by omega), mx_neg _ (by omega), hg]
 simp only [Option.bind_some]
 rw [w64 (n := i + 1) (by omega) (by omega)]
 unfold sgx
 by_cases hs : s = 0
 ·
  rw [if_pos hs, if_pos hs]
  by_cases z : rd L i = 0
  ·
   rw [if_pos z, if_pos z, hs]
  ·
   rw [if_neg z, if_neg z, if_neg (by omega), sgn_div z]
   by_cases n : rd L i < 0
   ·
    rw [if_pos n, w64 (by omega) (by omega)]
   ·
    rw [if_neg n, w64 (by omega) (by omega)]
 ·
  rw [if_neg hs, if_neg hs]
theorem l1_step {k : Nat} {L : List Int} {g s i : Int} {o : Bool} (h0 : 0 ≤ i) (h4 : i < 4) (hL : L.length = 4) (hx : (rd L i).natAbs ≤ 4000000) (hg : g ≠ 0) (hs : s = 1 ∨ s = -1) :
  spec_l04Reduce.l1 (k + 1) L g s o i = spec_l04Reduce.l1 k (L.set i.toNat ((rd L i).tdiv g * s)) g s (o && decide (PM.small ((rd L i).tdiv g * s))) (i + 1) := by
 have hq := PM.tdiv_abs_le (rd L i) g
 have hm : ((rd L i).tdiv g * s).natAbs ≤ 4000000 := by rcases hs with rfl | rfl <;> omega
 simp only [spec_l04Reduce.l1]
 rw [if_pos h4, if_pos h0, if_pos (by omega), if_neg hg, w64 (n := (rd L i).tdiv g) (by omega) (by omega), w64 (n := (rd L i).tdiv g * s) (by omega) (by omega), w64 (n := i + 1) (by omega) (by omega)]
 simp only [Option.bind_some]
 cases o with
 | true =>
  rw [if_pos rfl, in_eq]
  simp only [Option.bind_some, Bool.true_and]
  have : rd (L.set i.toNat ((rd L i).tdiv g * s)) i = (rd L i).tdiv g * s := by
   unfold rd
   rw [List.getD_eq_getElem?_getD, List.getElem?_set_self (by omega)]; rfl
  rw [this]; rfl
 | false => rw [if_neg (by simp)]; rfl
theorem l04Reduce_eq {a b c d : Int} (ha : a.natAbs ≤ 4000000) (hb : b.natAbs ≤ 4000000) (hc : c.natAbs ≤ 4000000) (hd : d.natAbs ≤ 4000000) (h : a * d - b * c ≠ 0) : ∃ K, ∀ k, K ≤ k → spec_l04Reduce.f k a b c d = some (redT a b c d) := by
 have l1 := gcd_le 0 (a.natAbs : Int)
 obtain ⟨K1, h1⟩ := l01Gcd_eq 0 (a.natAbs : Int) (by omega) (by omega)
 have l2 := gcd_le (Int.gcd 0 (a.natAbs : Int) : Int) (b.natAbs : Int)
 obtain ⟨K2, h2⟩ := l01Gcd_eq (Int.gcd 0 (a.natAbs : Int) : Int) (b.natAbs : Int) (by omega) (by omega)
 have l3 := gcd_le (Int.gcd (Int.gcd 0 (a.natAbs : Int) : Int) (b.natAbs : Int) : Int) (c.natAbs : Int)
 obtain ⟨K3, h3⟩ := l01Gcd_eq (Int.gcd (Int.gcd 0 (a.natAbs : Int) : Int) (b.natAbs : Int) : Int) (c.natAbs : Int) (by omega) (by omega)
 have l4 := gcd_le (Int.gcd (Int.gcd (Int.gcd 0 (a.natAbs : Int) : Int) (b.natAbs : Int) : Int) (c.natAbs : Int) : Int) (d.natAbs : Int)
 obtain ⟨K4, h4⟩ := l01Gcd_eq (Int.gcd (Int.gcd (Int.gcd 0 (a.natAbs : Int) : Int) (b.natAbs : Int) : Int) (c.natAbs : Int) : Int) (d.natAbs : Int) (by omega) (by omega)
 have hG := PM.g4_steps a b c d
 have hgp := PM.g4_pos h
 have es : sgx (sgx (sgx (sgx 0 a) b) c) d = PM.sg a b := by
  unfold sgx PM.sg
  by_cases za : a = 0
  ·
   by_cases zb : b = 0
   ·
    subst za zb; simp at h
   ·
    subst za; by_cases nb : b < 0 <;> simp [zb, nb]
  ·
   by_cases na : a < 0 <;> simp [za, na]
 have hsg := PM.sg_cases a b
 refine ⟨K1 + K2 + K3 + K4 + 20, fun k hk => ?_⟩
 obtain ⟨k, rfl⟩ : ∃ m, k = m + 1 + 1 + 1 + 1 + 1 + 1 + 1 + 1 + 1 + 1 := ⟨k - 10, by omega⟩
 unfold spec_l04Reduce.f
 rw [l0_step (g2 := (Int.gcd 0 (a.natAbs : Int) : Int)) (by omega) (by omega) rfl (by simpa [rd] using ha) (by simpa [rd] using h1 _ (by omega))]
 rw [l0_step (g2 := (Int.gcd (Int.gcd 0 (a.natAbs : Int) : Int) (b.natAbs : Int) : Int)) (by omega) (by omega) rfl (by simpa [rd] using hb) (by simpa [rd] using h2 _ (by omega))]
 rw [l0_step (g2 := (Int.gcd (Int.gcd (Int.gcd 0 (a.natAbs : Int) : Int) (b.natAbs : Int) : Int) (c.natAbs : Int) : Int)) (by omega) (by omega) rfl (by simpa [rd] using hc) (by simpa [rd] using h3 _ (by omega))]
 rw [l0_step (g2 := PM.g4 a b c d) (by omega) (by omega) rfl (by simpa [rd] using hd) (by rw [← hG]; simpa [rd] using h4 _ (by omega))]
 rw [show rd [a, b, c, d] 0 = a from rfl, show rd [a, b, c, d] (0 + 1) = b from rfl, show rd [a, b, c, d] (0 + 1 + 1) = c from rfl, show rd [a, b, c, d] (0 + 1 + 1 + 1) = d from rfl, es]
 simp only [spec_l04Reduce.l0]
 have hle : PM.g4 a b c d ≤ 100000000 := by rw [← hG]; omega
 rw [if_neg (by omega), show mx (PM.g4 a b c d) (wrap64 (-(PM.g4 a b c d))) = PM.g4 a b c d by rw [mx_neg _ (by omega)]; omega]
 have hgz : PM.g4 a b c d ≠ 0 := by omega
 rw [l1_step (by omega) (by omega) rfl (by simpa [rd] using ha) hgz hsg]
 rw [show ([a, b, c, d].set (0 : Int).toNat ((rd [a, b, c, d] 0).tdiv (PM.g4 a b c d) * PM.sg a b)) = [a.tdiv (PM.g4 a b c d) * PM.sg a b, b, c, d] from rfl, show rd [a, b, c, d] 0 = a from rfl]
 rw [l1_step (by omega) (by omega) rfl (by simpa [rd] using hb) hgz hsg]
 rw [show ∀ x y : Int, ([x, b, c, d].set (0 + 1 : Int).toNat y) = [x, y, c, d] from fun _ _ => rfl, show ∀ x : Int, rd [x, b, c, d] (0 + 1) = b from fun _ => rfl]
 rw [l1_step (by omega) (by omega) rfl (by simpa [rd] using hc) hgz hsg]
 rw [show ∀ x x' y : Int, ([x, x', c, d].set (0 + 1 + 1 : Int).toNat y) = [x, x', y, d] from fun _ _ _ => rfl, show ∀ x x' : Int, rd [x, x', c, d] (0 + 1 + 1) = c from fun _ _ => rfl]
 rw [l1_step (by omega) (by omega) rfl (by simpa [rd] using hd) hgz hsg]
 rw [show ∀ x x' x'' y : Int, ([x, x', x'', d].set (0 + 1 + 1 + 1 : Int).toNat y) = [x, x', x'', y] from fun _ _ _ _ => rfl, show ∀ x x' x'' : Int, rd [x, x', x'', d] (0 + 1 + 1 + 1) = d from fun _ _ _ => rfl]
 simp only [spec_l04Reduce.l1]
 rw [if_neg (by omega), if_pos (by simp), if_pos (by simp), if_pos (by simp), if_pos (by simp)]
 simp only [← PM.tdiv_sg _ _ _ hsg]
 unfold redT
 have hr := PM.red_isM h
 unfold PM.red at hr ⊢
 simp only at hr ⊢
 rw [show PM.g4 a b c d * PM.sg a b = PM.by4 a b c d from rfl]
 have eb : (((true && decide (PM.small (a.tdiv (PM.by4 a b c d)))) && decide (PM.small (b.tdiv (PM.by4 a b c d)))) && decide (PM.small (c.tdiv (PM.by4 a b c d))) && decide (PM.small (d.tdiv (PM.by4 a b c d)))) = decide (PM.isM (a.tdiv (PM.by4 a b c d)) (b.tdiv (PM.by4 a b c d)) (c.tdiv (PM.by4 a b c d)) (d.tdiv (PM.by4 a b c d))) := by
  rw [Bool.eq_iff_iff]
  simp only [Bool.true_and, Bool.and_eq_true, decide_eq_true_eq, and_assoc]
  exact hr.symm
 rw [eb]; rfl

theorem isM_inv {a b c d : Int} (h : PM.isM a b c d) : PM.isM d (-b) (-c) a := by
 unfold PM.isM at *
 refine ⟨by omega, ?_⟩
 have := h.2
 rw [Int.neg_mul_neg, Int.mul_comm d a]; exact this
theorem inverted_eq {a b c d : Int} (h : PM.isM a b c d) : ∃ K, ∀ k, K ≤ k → impl_inverted.f k a b c d = some (PM.red d (-b) (-c) a) := by
 have hb := PM.isM_bd h
 obtain ⟨K, hK⟩ := reduce_eq (isM_inv h)
 refine ⟨K, fun k hk => ?_⟩
 unfold impl_inverted.f
 rw [w64 (n := -b) (by omega) (by omega), w64 (n := -c) (by omega) (by omega), hK k hk]; rfl

theorem l04Inverse_eq {a b c d : Int} (h : PM.isM a b c d) : ∃ K, ∀ k, K ≤ k → spec_l04Inverse.f k a b c d = some (PM.red d (-b) (-c) a) := by
 have hb := PM.isM_bd h
 have hi := isM_inv h
 obtain ⟨K, hK⟩ := l04Reduce_eq (a := d) (b := -b) (c := -c) (d := a) (by omega) (by omega) (by omega) (by omega) hi.2
 refine ⟨K, fun k hk => ?_⟩
 unfold spec_l04Inverse.f
 rw [w64 (n := -b) (by omega) (by omega), w64 (n := -c) (by omega) (by omega), hK k hk]; rfl

theorem mvlin {c T d S : Int} (hc : c.natAbs ≤ 1000) (hd : d.natAbs ≤ 1000) (hT : T.natAbs ≤ 13841287201) (hS : S.natAbs ≤ 13841287201) :
  wrap64 (wrap64 (c * T) + wrap64 (d * S)) = c * T + d * S ∧ wrap64 (c * T) = c * T ∧ (c * T).natAbs ≤ 13841287201000 ∧ (c * T + d * S).natAbs ≤ 27682574402000 := by
 have h1 : (c * T).natAbs ≤ 1000 * 13841287201 := by rw [Int.natAbs_mul]; exact Nat.mul_le_mul hc hT
 have h2 : (d * S).natAbs ≤ 1000 * 13841287201 := by rw [Int.natAbs_mul]; exact Nat.mul_le_mul hd hS
 rw [w64 (n := c * T) (by omega) (by omega), w64 (n := d * S) (by omega) (by omega), w64 (by omega) (by omega)]
 exact ⟨rfl, rfl, by omega, by omega⟩
theorem mvF_bd {p a b c d P T S : Int} (ha : a.natAbs ≤ 1000) (hb : b.natAbs ≤ 1000) (hc : c.natAbs ≤ 1000) (hd : d.natAbs ≤ 1000) (hP : P.natAbs ≤ 13841287201) (hT : T.natAbs ≤ 13841287201) (hS : S.natAbs ≤ 13841287201) :
  (PM.mvF p a b c d P T S).1.natAbs ≤ 27682574402000 ∧ (PM.mvF p a b c d P T S).2.natAbs ≤ 27682574402000 := by
 have h1 := mvlin ha hb hT hS
 have h2 := mvlin hc hd hT hS
 have h3 := mvlin (d := 0) (S := 0) ha (by simp) hP (by simp)
 have h4 := mvlin (d := 0) (S := 0) hc (by simp) hP (by simp)
 unfold PM.mvF
 split
 ·
  exact ⟨by simp only; omega, by simp only; omega⟩
 ·
  exact ⟨by simp only; omega, by simp only; omega⟩

set_option maxHeartbeats 1600000 in
theorem moveBall_eq {p a b c d lv top dn : Int} (hp : Pr p) (hm : PM.isM a b c d) (ho : PM.Ok p ⟨lv, top, dn⟩) : ∀ k, 13841287400 ≤ k → impl_moveBall.f k p a b c d lv top dn = some (enc (PM.moveB p a b c d ⟨lv, top, dn⟩)) := by
 intro k hk
 obtain ⟨k, rfl⟩ : ∃ j, k = j + 1 := ⟨k - 1, by omega⟩
 have hb := PM.isM_bd hm
 obtain ⟨m0, m1⟩ := PM.mark_bd hp ho
 have hlv := ho.1
 have hlv2 := ho.2.1
 simp only at hlv hlv2 m1
 have b1 := pw_bd12 p (lv + 6) hp (by omega)
 have b2 := pw_bd12 p 6 hp (by omega)
 unfold impl_moveBall.f
 rw [mark_eq hp ho _ (by omega), power_eq p 6 hp (by omega) _ (by omega), w64 (n := lv + 6) (by omega) (by omega), power_eq p (lv + 6) hp (by omega) _ (by omega)]
 simp only [Option.bind_some]
 unfold PM.moveB
 simp only
 obtain ⟨P, hP⟩ : ∃ P, P = pw p (lv + 6) := ⟨_, rfl⟩
 obtain ⟨S, hS⟩ : ∃ S, S = pw p 6 := ⟨_, rfl⟩
 obtain ⟨T, hT⟩ : ∃ T, T = PM.mark p ⟨lv, top, dn⟩ := ⟨_, rfl⟩
 rw [← hP, ← hS, ← hT]
 rw [← hP] at b1 m1
 rw [← hS] at b2
 rw [← hT] at m0 m1
 have hbd := mvF_bd (p := p) (P := P) (T := T) (S := S) hb.1 hb.2.1 hb.2.2.1 hb.2.2.2 (by omega) (by omega) (by omega)
 have hne := PM.mvF_ne (p := p) (P := P) (T := T) (S := S) hm.2 (by omega) (by omega)
 obtain ⟨l1, _, _, l1b⟩ := mvlin (T := T) (S := S) hb.1 hb.2.1 (by omega) (by omega)
 obtain ⟨l2, _, _, l2b⟩ := mvlin (T := T) (S := S) hb.2.2.1 hb.2.2.2 (by omega) (by omega)
 obtain ⟨_, l3, l3b, _⟩ := mvlin (T := P) (S := 0) (d := 0) hb.1 (by simp) (by omega) (by simp)
 obtain ⟨_, l4, l4b, _⟩ := mvlin (T := P) (S := 0) (d := 0) hb.2.2.1 (by simp) (by omega) (by simp)
 rw [l1, l2, l3, l4, valuation_eq p _ hp (by omega) _ (by omega), valuation_eq p _ hp (by omega) _ (by omega)]
 simp only [Option.bind_some]
 have hsel : (if vz p (c * T + d * S) > vz p (c * P) then impl_moveBall.j0 (k + 1) p a b c d lv top dn (a * P) (c * P) else impl_moveBall.j0 (k + 1) p a b c d lv top dn (a * T + b * S) (c * T + d * S)) = impl_moveBall.j0 (k + 1) p a b c d lv top dn (PM.mvF p a b c d P T S).1 (PM.mvF p a b c d P T S).2 := by
  unfold PM.mvF at hne ⊢
  by_cases z : c * T + d * S = 0
  ·
   rw [if_pos (Or.inl z)] at hne ⊢
   have hne' : c * P ≠ 0 := hne
   have hu := vl_le63 hp hne' (by omega)
   rw [z, show vz p 0 = 1000 by simp [vz], vz_of_ne hne', if_pos (by omega)]
  ·
   have hv := vl_le63 hp z (by omega)
   rw [vz_of_ne z]
   by_cases y : c * P = 0
   ·
    rw [y, show vz p 0 = 1000 by simp [vz], if_neg (by omega), if_neg (show ¬ (c * T + d * S = 0 ∨ ((0 : Int) ≠ 0 ∧ vl p 0 < vl p (c * T + d * S))) from fun h => h.elim z (fun h => h.1 rfl))]
   ·
    rw [vz_of_ne y]
    by_cases q : vl p (c * P) < vl p (c * T + d * S)
    ·
     rw [if_pos (by omega), if_pos (Or.inr ⟨y, q⟩)]
    ·
     rw [if_neg (by omega), if_neg (show ¬ (c * T + d * S = 0 ∨ (c * P ≠ 0 ∧ vl p (c * P) < vl p (c * T + d * S))) from fun h => h.elim z (fun h => q h.2))]
 rw [hsel]
 generalize PM.mvF p a b c d P T S = F at *
 obtain ⟨e1, e2⟩ := dets hb.1 hb.2.1 hb.2.2.1 hb.2.2.2
 have v1 := vl_le63 hp hm.2 (by omega)
 have v2 := vl_le63 hp hne (by omega)
 simp only [impl_moveBall.j0]
 unfold impl_determinant.f
 simp only [Option.bind_some]
 rw [e1, valuation_eq p _ hp (by omega) _ (by omega), valuation_eq p _ hp (by omega) _ (by omega), vz_of_ne hm.2, vz_of_ne hne]
 simp only [Option.bind_some]
 rw [w64 (n := (vl p (a * d - b * c) : Int) + lv) (by omega) (by omega), w64 (n := (vl p (a * d - b * c) : Int) + lv + 12) (by omega) (by omega), w64 (n := 2 * (vl p F.2 : Int)) (by omega) (by omega), w64 (n := (vl p (a * d - b * c) : Int) + lv + 12 - 2 * (vl p F.2 : Int)) (by omega) (by omega), ballAt_eq hp hne (by omega) (by omega) k (by omega)]
 rfl

set_option maxHeartbeats 1600000 in
theorem l04Move_eq {p a b c d lv top dn : Int} (hp : Pr p) (hm : PM.isM a b c d) (ho : PM.Ok p ⟨lv, top, dn⟩) : ∀ k, 13841287400 ≤ k → spec_l04Move.f k p a b c d lv top dn = some (enc (PM.moveB p a b c d ⟨lv, top, dn⟩)) := by
 intro k hk
 obtain ⟨k, rfl⟩ : ∃ j, k = j + 1 + 1 := ⟨k - 2, by omega⟩
 have hb := PM.isM_bd hm
 obtain ⟨t, ht⟩ : ∃ t, t = max dn (-lv) := ⟨_, rfl⟩
 rw [PM.moveB_ref (t := t) hp hm.2 ho ht]
 obtain ⟨o1, o2, o3, o4, o5⟩ := ho
 simp only at o1 o2 o3 o4 o5 ⊢
 have b1 := pw_bd12 p (lv + t) hp (by omega)
 have b2 := pw_bd12 p t hp (by omega)
 have b3 := pw_bd12 p (t - dn) hp (by omega)
 have hTb : 0 ≤ top * pw p (t - dn) ∧ top * pw p (t - dn) ≤ 13841287201 := by
  rcases o5 with ⟨_, z, _⟩ | ⟨g, h0, h1, _⟩
  ·
   rw [z]; simp
  ·
   refine ⟨Int.mul_nonneg h0 (by omega), ?_⟩
   have h2 : top * pw p (t - dn) ≤ pw p (lv + dn) * pw p (t - dn) := Int.mul_le_mul_of_nonneg_right (by omega) (by omega)
   rw [← PM.pw_add (by omega) (by omega), show lv + dn + (t - dn) = lv + t by omega] at h2
   omega
 unfold spec_l04Move.f
 simp only [mx_max]
 rw [w64 (n := -lv) (by omega) (by omega), ← ht, w64 (n := lv + t) (by omega) (by omega), w64 (n := t - dn) (by omega) (by omega), l01Power_eq p (lv + t) hp (by omega) (by omega) _ (by omega), l01Power_eq p t hp (by omega) (by omega) _ (by omega), l01Power_eq p (t - dn) hp (by omega) (by omega) _ (by omega)]
 simp only [Option.bind_some]
 rw [w64 (n := top * pw p (t - dn)) (by omega) (by omega)]
 obtain ⟨P, hP⟩ : ∃ P, P = pw p (lv + t) := ⟨_, rfl⟩
 obtain ⟨S, hS⟩ : ∃ S, S = pw p t := ⟨_, rfl⟩
 obtain ⟨T, hT⟩ : ∃ T, T = top * pw p (t - dn) := ⟨_, rfl⟩
 rw [← hP, ← hS, ← hT]
 rw [← hP] at b1
 rw [← hS] at b2
 rw [← hT] at hTb
 have hbd := mvF_bd (p := p) (P := P) (T := T) (S := S) hb.1 hb.2.1 hb.2.2.1 hb.2.2.2 (by omega) (by omega) (by omega)
 have hne := PM.mvF_ne (p := p) (P := P) (T := T) (S := S) hm.2 (by omega) (by omega)
 obtain ⟨l1, _, _, l1b⟩ := mvlin (T := T) (S := S) hb.1 hb.2.1 (by omega) (by omega)
 obtain ⟨l2, _, _, l2b⟩ := mvlin (T := T) (S := S) hb.2.2.1 hb.2.2.2 (by omega) (by omega)
 obtain ⟨_, l3, l3b, _⟩ := mvlin (T := P) (S := 0) (d := 0) hb.1 (by simp) (by omega) (by simp)
 obtain ⟨_, l4, l4b, _⟩ := mvlin (T := P) (S := 0) (d := 0) hb.2.2.1 (by simp) (by omega) (by simp)
 simp only [l1, l2, l3, l4]
 have htb : 0 ≤ t ∧ t ≤ 6 := by omega
 clear o5 ht hP hS hT
 have hend : spec_l04Move.j1 (k + 1) p t a b c d lv top dn (PM.mvF p a b c d P T S).1 (PM.mvF p a b c d P T S).2 = some (enc (PM.ballAt p (PM.mvF p a b c d P T S).1 (PM.mvF p a b c d P T S).2 ((vl p (a * d - b * c) : Int) + lv + 2 * t - 2 * vl p (PM.mvF p a b c d P T S).2))) := by
  generalize PM.mvF p a b c d P T S = F at *
  obtain ⟨e1, e2⟩ := dets hb.1 hb.2.1 hb.2.2.1 hb.2.2.2
  have v1 := vl_le63 hp hm.2 (by omega)
  have v2 := vl_le63 hp hne (by omega)
  simp only [spec_l04Move.j1]
  unfold spec_l04Det.f
  simp only [Option.bind_some]
  rw [e1, val_eq p _ hp hm.2 (by omega) _ (by omega), val_eq p _ hp hne (by omega) _ (by omega)]
  simp only [Option.bind_some]
  rw [w64 (n := (vl p (a * d - b * c) : Int) + lv) (by omega) (by omega), w64 (n := 2 * t) (by omega) (by omega), w64 (n := (vl p (a * d - b * c) : Int) + lv + 2 * t) (by omega) (by omega), w64 (n := 2 * (vl p F.2 : Int)) (by omega) (by omega), w64 (n := (vl p (a * d - b * c) : Int) + lv + 2 * t - 2 * (vl p F.2 : Int)) (by omega) (by omega), l01Of_eq hp hne (by omega) (by omega) k (by omega), lOf_eq_ballAt hp hne]
  rfl
 rw [← hend]
 unfold PM.mvF at hne ⊢
 by_cases z : c * T + d * S = 0
 ·
  rw [if_pos z, if_pos (Or.inl z)]
  simp only [spec_l04Move.j0]
  rw [if_pos trivial]
 ·
  rw [if_neg z]
  by_cases y : c * P = 0
  ·
   rw [if_pos y, if_neg (show ¬ (c * T + d * S = 0 ∨ (c * P ≠ 0 ∧ vl p (c * P) < vl p (c * T + d * S))) from fun h => h.elim z (fun h => h.1 y))]
   simp only [spec_l04Move.j0]
   rw [if_neg (by simp)]
  ·
   rw [if_neg y, val_eq p _ hp z (by omega) _ (by omega), val_eq p _ hp y (by omega) _ (by omega), Option.bind_some, Option.bind_some]
   simp only [spec_l04Move.j0]
   by_cases q : vl p (c * P) < vl p (c * T + d * S)
   ·
    rw [decide_eq_true (by omega), if_pos rfl, if_pos (Or.inr ⟨y, q⟩)]
   ·
    rw [decide_eq_false (by omega), if_neg (by simp), if_neg (show ¬ (c * T + d * S = 0 ∨ (c * P ≠ 0 ∧ vl p (c * P) < vl p (c * T + d * S))) from fun h => h.elim z (fun h => q h.2))]

theorem joinLevel_eq {p l1 t1 d1 l2 t2 d2 : Int} (hp : Pr p) (hb : PM.Ok p ⟨l1, t1, d1⟩) (hc : PM.Ok p ⟨l2, t2, d2⟩) : ∀ k, 100 ≤ k → impl_joinLevel.f k p l1 t1 d1 l2 t2 d2 = some (PM.jl p ⟨l1, t1, d1⟩ ⟨l2, t2, d2⟩) := by
 intro k hk
 obtain ⟨m0, m1⟩ := PM.mark_bd hp hb
 obtain ⟨m2, m3⟩ := PM.mark_bd hp hc
 have b1 := pw_bd12 p (l1 + 6) hp (by have := hb.2.1; simp only at this; omega)
 have b2 := pw_bd12 p (l2 + 6) hp (by have := hc.2.1; simp only at this; omega)
 simp only at m1 m3
 unfold impl_joinLevel.f
 rw [mark_eq hp hb k (by omega), mark_eq hp hc k (by omega)]
 simp only [Option.bind_some]
 rw [w64 (n := PM.mark p ⟨l1, t1, d1⟩ - PM.mark p ⟨l2, t2, d2⟩) (by omega) (by omega), valuation_eq p _ hp (by omega) k (by omega)]
 simp only [Option.bind_some, mn_min]
 have hz := PM.vz_nonneg p (PM.mark p ⟨l1, t1, d1⟩ - PM.mark p ⟨l2, t2, d2⟩)
 have hz2 : vz p (PM.mark p ⟨l1, t1, d1⟩ - PM.mark p ⟨l2, t2, d2⟩) ≤ 1000 := by
  unfold vz
  by_cases z : PM.mark p ⟨l1, t1, d1⟩ - PM.mark p ⟨l2, t2, d2⟩ = 0
  ·
   rw [if_pos z]; omega
  ·
   rw [if_neg z]; have := vl_le63 hp z (by omega); omega
 rw [w64 (by omega) (by omega)]
 rfl
theorem distance_fin {p : Int} {b c : PM.Ball} (hb : PM.Ok p b) (hc : PM.Ok p c) : wrap64 (wrap64 (b.lv + c.lv) - wrap64 (2 * PM.jl p b c)) = PM.dist p b c := by
 obtain ⟨j1, j2, j3⟩ := PM.jl_bd p hb hc
 have h1 := hb.2.1
 have h2 := hc.2.1
 have h3 := hb.1
 have h4 := hc.1
 rw [w64 (n := b.lv + c.lv) (by omega) (by omega), w64 (n := 2 * PM.jl p b c) (by omega) (by omega), w64 (by omega) (by omega)]
 rfl

theorem distance_eq {p l1 t1 d1 l2 t2 d2 : Int} (hp : Pr p) (hb : PM.Ok p ⟨l1, t1, d1⟩) (hc : PM.Ok p ⟨l2, t2, d2⟩) : ∀ k, 100 ≤ k → impl_distance.f k p l1 t1 d1 l2 t2 d2 = some (PM.dist p ⟨l1, t1, d1⟩ ⟨l2, t2, d2⟩) := by
 intro k hk
 unfold impl_distance.f
 rw [joinLevel_eq hp hb hc k hk]
 simp only [Option.bind_some]
 exact congrArg some (distance_fin hb hc)

set_option maxHeartbeats 1600000 in
theorem l02Join_eq {p l1 t1 d1 l2 t2 d2 : Int} (hp : Pr p) (hb : PM.Ok p ⟨l1, t1, d1⟩) (hc : PM.Ok p ⟨l2, t2, d2⟩) : ∀ k, 100 ≤ k → spec_l02Join.f k p l1 t1 d1 l2 t2 d2 = some (PM.jl p ⟨l1, t1, d1⟩ ⟨l2, t2, d2⟩) := by
 intro k hk
 rw [PM.jl_ref hp hb hc]
 have tb : ∀ {l t d m : Int}, PM.Ok p ⟨l, t, d⟩ → d ≤ m → m ≤ 6 → 0 ≤ t * pw p (m - d) ∧ t * pw p (m - d) ≤ 13841287201 := by
  intro l t d m ho h1 h2
  obtain ⟨o1, o2, o3, o4, o5⟩ := ho
  simp only at o1 o2 o3 o4 o5
  have hq := pw_bd12 p (m - d) hp (by omega)
  rcases o5 with ⟨_, z, _⟩ | ⟨g, h0, h1', _⟩
  ·
   rw [z]; simp
  ·
   refine ⟨Int.mul_nonneg h0 (by omega), ?_⟩
   have h2 : t * pw p (m - d) ≤ pw p (l + d) * pw p (m - d) := Int.mul_le_mul_of_nonneg_right (by omega) (by omega)
   rw [← PM.pw_add (by omega) (by omega), show l + d + (m - d) = l + m by omega] at h2
   have := pw_bd12 p (l + m) hp (by omega)
   omega
 have b3 := hb.2.2.1
 have b4 := hb.2.2.2.1
 have c3 := hc.2.2.1
 have c4 := hc.2.2.2.1
 simp only at b3 b4 c3 c4 ⊢
 have h1 := tb hb (m := max d1 d2) (by omega) (by omega)
 have h2 := tb hc (m := max d1 d2) (by omega) (by omega)
 clear tb
 unfold spec_l02Join.f spec_l02Valuation.f
 simp only [mx_max, mn_min]
 obtain ⟨M, hM⟩ : ∃ M, M = max d1 d2 := ⟨_, rfl⟩
 rw [← hM] at h1 h2 ⊢
 rw [w64 (n := M - d1) (by omega) (by omega), w64 (n := M - d2) (by omega) (by omega), l01Power_eq p (M - d1) hp (by omega) (by omega) k (by omega), l01Power_eq p (M - d2) hp (by omega) (by omega) k (by omega)]
 simp only [Option.bind_some]
 rw [w64 (n := t1 * pw p (M - d1)) (by omega) (by omega), w64 (n := t2 * pw p (M - d2)) (by omega) (by omega), w64 (n := t1 * pw p (M - d1) - t2 * pw p (M - d2)) (by omega) (by omega)]
 have hD : (t1 * pw p (M - d1) - t2 * pw p (M - d2)).natAbs ≤ 9223372036854775807 := by omega
 generalize t1 * pw p (M - d1) - t2 * pw p (M - d2) = D at *
 by_cases z : D = 0
 ·
  rw [if_pos z, if_pos z]
  simp only [Option.bind_some]
  rw [if_neg (by simp)]
 ·
  rw [if_neg z, if_neg z, val_eq p D hp z hD k (by omega)]
  have hv := vl_le63 hp z (by omega)
  simp only [Option.bind_some, if_true]
  rw [w64 (by omega) (by omega)]

theorem l02Distance_eq {p l1 t1 d1 l2 t2 d2 : Int} (hp : Pr p) (hb : PM.Ok p ⟨l1, t1, d1⟩) (hc : PM.Ok p ⟨l2, t2, d2⟩) : ∀ k, 100 ≤ k → spec_l02Distance.f k p l1 t1 d1 l2 t2 d2 = some (PM.dist p ⟨l1, t1, d1⟩ ⟨l2, t2, d2⟩) := by
 intro k hk
 unfold spec_l02Distance.f
 rw [l02Join_eq hp hb hc k hk]
 simp only [Option.bind_some]
 exact congrArg some (distance_fin hb hc)

def cvM (x : S23) : S26 := ⟨⟨x.f0.f0, x.f0.f1⟩, ⟨x.f1.f0, x.f1.f1⟩⟩
theorem rdU (l : List S23) (i : Nat) (h : i < l.length) : rd_T23 l (i : Int) = l[i]'h := by
 unfold rd_T23; simp [List.getD_eq_getElem?_getD, h]
theorem toMats_eq (l : List S23) (hl : l.length ≤ 1048576) : ∃ K, ∀ k, K ≤ k → laws_toMatrixS.f k l = some (l.map cvM) := by
 have go : ∀ (d k : Nat) (acc : List S26) (i : Nat), acc.length = l.length → i + d = l.length → d < k → (∀ j, j < i → acc[j]? = (l.map cvM)[j]?) → laws_toMatrixS.l0 k l acc i = some (l.map cvM) := by
  intro d
  induction d with
  | zero =>
   intro k acc i h1 h2 h3 h4
   obtain ⟨k, rfl⟩ : ∃ m, k = m + 1 := ⟨k - 1, by omega⟩
   simp only [laws_toMatrixS.l0]
   rw [if_neg (by omega)]
   congr 1
   apply List.ext_getElem?
   intro j
   by_cases hj : j < i
   ·
    exact h4 j hj
   ·
    rw [List.getElem?_eq_none (by omega), List.getElem?_eq_none (by rw [List.length_map]; omega)]
  | succ d ih =>
   intro k acc i h1 h2 h3 h4
   obtain ⟨k, rfl⟩ : ∃ m, k = m + 1 := ⟨k - 1, by omega⟩
   simp only [laws_toMatrixS.l0]
   rw [if_pos (by omega), if_pos (by omega), rdU l i (by omega)]
   unfold laws_toMatrix.f
   simp only [Option.bind_some]
   rw [if_pos (by omega), w64 (by omega) (by omega)]
   refine ih k _ (i + 1) (by rw [List.length_set]; exact h1) (by omega) (by omega) fun j hj => ?_
   by_cases e : j = i
   ·
    subst e
    rw [show ((j : Int).toNat) = j from by omega, List.getElem?_set_self (by omega), List.getElem?_map, List.getElem?_eq_getElem (by omega)]; rfl
   ·
    rw [show ((i : Int).toNat) = i from by omega, List.getElem?_set_ne (by omega)]
    exact h4 j (by omega)
 refine ⟨l.length + 1, fun k hk => ?_⟩
 unfold laws_toMatrixS.f
 rw [if_pos (by omega), if_pos (by omega)]
 exact go l.length k _ 0 (by simp) (by omega) (by omega) (by intro j hj; omega)
theorem sz_small (l : List S23) (h : l.length ≤ 1048576) : laws_szMatrixS.f l 1048576 = some (1048576 - (l.length : Int)) := by
 unfold laws_szMatrixS.f
 rw [w64 (by omega) (by omega), if_neg (by omega)]
theorem sz_large (l : List S23) (h : ¬ l.length ≤ 1048576) (h2 : l.length ≤ 9223372036854775807) : laws_szMatrixS.f l 1048576 = some (-1) := by
 unfold laws_szMatrixS.f
 rw [w64 (by omega) (by omega), if_pos (by omega)]

theorem eqMats (l : List S26) (hl : l.length ≤ 1048576) : ∃ K, ∀ k, K ≤ k → laws_eqMatrixS.f k l l = some true := by
 have go : ∀ (d k i : Nat), i + d = l.length → d < k → laws_eqMatrixS.l0 k l l i = some true := by
  intro d
  induction d with
  | zero =>
   intro k i h2 h3
   obtain ⟨k, rfl⟩ : ∃ m, k = m + 1 := ⟨k - 1, by omega⟩
   simp only [laws_eqMatrixS.l0]
   rw [if_neg (by omega)]
  | succ d ih =>
   intro k i h2 h3
   obtain ⟨k, rfl⟩ : ∃ m, k = m + 1 := ⟨k - 1, by omega⟩
   simp only [laws_eqMatrixS.l0]
   rw [if_pos (by omega), if_pos (by omega), if_pos (by omega)]
   unfold laws_eqMatrix.f
   rw [decide_eq_true ⟨rfl, rfl, rfl, rfl⟩]
   simp only [Option.bind_some, if_true]
   rw [w64 (by omega) (by omega)]
   exact ih k (i + 1) (by omega) (by omega)
 refine ⟨l.length + 1, fun k hk => ?_⟩
 unfold laws_eqMatrixS.f
 rw [if_pos rfl]
 exact go l.length k 0 (by omega) (by omega)

theorem markMats (l : List S26) (hl : l.length ≤ 1048576) : ∃ K, ∀ k, K ≤ k → laws_markMatrixS.f k l 1 = some 1 := by
 have go : ∀ (d k i : Nat), i + d = l.length → d < k → laws_markMatrixS.l0 k l 1 i = some 1 := by
  intro d
  induction d with
  | zero =>
   intro k i h2 h3
   obtain ⟨k, rfl⟩ : ∃ m, k = m + 1 := ⟨k - 1, by omega⟩
   simp only [laws_markMatrixS.l0]
   rw [if_neg (by omega)]
  | succ d ih =>
   intro k i h2 h3
   obtain ⟨k, rfl⟩ : ∃ m, k = m + 1 := ⟨k - 1, by omega⟩
   simp only [laws_markMatrixS.l0]
   rw [if_pos (by omega), w64 (by omega) (by omega)]
   exact ih k (i + 1) (by omega) (by omega)
 exact ⟨l.length + 1, fun k hk => go l.length k 0 (by omega) (by omega)⟩

theorem l06Movers_eq (l : List S26) (m : Int) (hl : l.length ≤ 10000000) : ∀ k, l.length + 2 ≤ k → spec_l06Movers.f k l m = some (if l.all mOk = true then (if (l.length : Int) < 1 ∨ (l.length : Int) > m then 2 else 0) else 1) := by
 have go : ∀ (d i k : Nat), i + d = l.length → d < k → spec_l06Movers.l0 k l m i = some (if (l.drop i).all mOk = true then (if (l.length : Int) < 1 ∨ (l.length : Int) > m then 2 else 0) else 1) := by
  intro d
  induction d with
  | zero =>
   intro i k hi hk
   obtain ⟨k, rfl⟩ : ∃ m, k = m + 1 := ⟨k - 1, by omega⟩
   simp only [spec_l06Movers.l0]
   rw [if_neg (by omega), List.drop_eq_nil_of_le (by omega)]
   simp only [List.all_nil, if_true]
   by_cases h1 : (l.length : Int) < 1
   ·
    rw [if_pos h1, if_pos (Or.inl h1)]
   ·
    rw [if_neg h1]
    by_cases h2 : (l.length : Int) > m
    ·
     rw [if_pos h2, if_pos (Or.inr h2)]
    ·
     rw [if_neg h2, if_neg (fun h => h.elim h1 h2)]
  | succ d ih =>
   intro i k hi hk
   obtain ⟨k, rfl⟩ : ∃ m, k = m + 1 := ⟨k - 1, by omega⟩
   simp only [spec_l06Movers.l0]
   rw [if_pos (by omega), if_pos (by omega), rdM l i (by omega), l04Is_eq, all_drop mOk l i (by omega), w64 (by omega) (by omega), show ((i : Int) + 1) = ((i + 1 : Nat) : Int) from by omega, ih (i + 1) k (by omega) (by omega)]
   simp only [Option.bind_some]
   show _ = some (if (decide (PM.isM _ _ _ _) && _) = true then _ else _)
   by_cases h : PM.isM (l[i]'(by omega)).f0.f0 (l[i]'(by omega)).f0.f1 (l[i]'(by omega)).f1.f0 (l[i]'(by omega)).f1.f1
   ·
    rw [decide_eq_true h]; simp
   ·
    rw [decide_eq_false h]; simp
 intro k hk
 have := go l.length 0 k (by omega) (by omega)
 rw [show ((0 : Nat) : Int) = 0 from rfl, List.drop_zero] at this
 exact this

theorem prime_dec (p : Int) : spec_l01Prime.f p = some (decide (Pr p)) := by
 rcases prime_cases p with ⟨h, h2⟩ | ⟨h, h2⟩
 ·
  rw [h, decide_eq_true (show Pr p from h2)]
 ·
  rw [h, decide_eq_false (show ¬ Pr p from h2)]

def enO (b : PM.Ball) : S39 := ⟨b.lv, b.top, b.dn⟩
theorem pig : ∀ (N : Nat) (l : List Nat), l.Nodup → (∀ x, x ∈ l → x < N) → l.length ≤ N
 | 0, l, _, h => by
  cases l with
  | nil => simp
  | cons x l => exact absurd (h x List.mem_cons_self) (by omega)
 | N + 1, l, hn, h => by
  have h1 := pig N (l.erase N) (hn.erase N) (fun x hx => by
   have h2 := (hn.mem_erase_iff).mp hx
   have := h x h2.2
   have := h2.1
   omega)
  have h3 := List.length_erase (a := N) (l := l)
  split at h3 <;> omega
def cdB (b : PM.Ball) : Nat := (((b.lv + 6) * 7 + b.dn) * 13841287201 + b.top).toNat
theorem top_bd {p : Int} (hp : Pr p) {b : PM.Ball} (h : PM.Ok p b) : 0 ≤ b.top ∧ b.top < 13841287201 := by
 obtain ⟨h1, h2, h3, h4, h5⟩ := h
 rcases h5 with ⟨_, e, _⟩ | ⟨h5, h6, h7, _⟩
 ·
  omega
 ·
  have e1 : PM.pw p (b.lv + b.dn) ≤ PM.pw 7 (b.lv + b.dn) := by
   have : ∀ n : Nat, p ^ n ≤ 7 ^ n := fun n => by
    have q : p.toNat ^ n ≤ 7 ^ n := Nat.pow_le_pow_left (by have := hp.le; omega) n
    have := hp.pos
    have e : ((p.toNat : Nat) : Int) = p := Int.toNat_of_nonneg (by omega)
    have : ((p.toNat ^ n : Nat) : Int) ≤ ((7 ^ n : Nat) : Int) := Int.ofNat_le.mpr q
    rw [Int.natCast_pow, e, Int.natCast_pow] at this
    exact this
   exact this _
  have e2 : PM.pw 7 (b.lv + b.dn) ≤ 13841287201 := by
   have : (7 : Int) ^ (b.lv + b.dn).toNat ≤ 7 ^ 12 := PM.pow_mono (by decide) (by omega)
   have h : (7 : Int) ^ 12 = 13841287201 := by decide
   rw [h] at this
   exact this
  omega
theorem cd_lt {p : Int} (hp : Pr p) {b : PM.Ball} (h : PM.Ok p b) : cdB b < 1259557135291 := by
 have := top_bd hp h
 obtain ⟨h1, h2, h3, h4, _⟩ := h
 unfold cdB; omega
theorem cd_inj {p : Int} (hp : Pr p) {b c : PM.Ball} (hb : PM.Ok p b) (hc : PM.Ok p c) (h : cdB b = cdB c) : b = c := by
 have t1 := top_bd hp hb
 have t2 := top_bd hp hc
 obtain ⟨h1, h2, h3, h4, _⟩ := hb
 obtain ⟨g1, g2, g3, g4, _⟩ := hc
 unfold cdB at h
 have a1 : b.lv = c.lv := by omega
 have a2 : b.dn = c.dn := by omega
 have a3 : b.top = c.top := by omega
 obtain ⟨x, y, z⟩ := b
 obtain ⟨x', y', z'⟩ := c
 simp only at a1 a2 a3
 subst a1 a2 a3; rfl
def goodL (p : Int) (L : List PM.Ball) : Prop := L.Nodup ∧ ∀ x, x ∈ L → PM.Ok p x
theorem good_len {p : Int} (hp : Pr p) {L : List PM.Ball} (h : goodL p L) : L.length ≤ 1259557135291 := by
 have := pig 1259557135291 (L.map cdB) (by
  unfold List.Nodup
  rw [List.pairwise_map]
  exact List.Pairwise.imp_of_mem (fun ha hb hne e => hne (cd_inj hp (h.2 _ ha) (h.2 _ hb) e)) h.1) (fun x hx => by
  obtain ⟨b, hb, rfl⟩ := List.mem_map.mp hx
  exact cd_lt hp (h.2 b hb))
 rwa [List.length_map] at this

theorem enO_mem (L : List PM.Ball) (c : PM.Ball) (i : Nat) (h : i < L.length) : (((L[i]'h).lv == c.lv && ((L[i]'h).top == c.top && ((L[i]'h).dn == c.dn))) = true) ↔ L[i]'h = c := by
 obtain ⟨x, y, z⟩ := c
 generalize L[i]'h = q
 obtain ⟨x', y', z'⟩ := q
 simp
theorem mem_drop_succ (L : List PM.Ball) (c : PM.Ball) (i : Nat) (h : i < L.length) : c ∈ L.drop i ↔ (L[i]'h = c ∨ c ∈ L.drop (i + 1)) := by
 rw [List.drop_eq_getElem_cons h, List.mem_cons]
 exact ⟨fun z => z.imp Eq.symm id, fun z => z.imp Eq.symm id⟩
theorem rdE (L : List PM.Ball) (i : Nat) (h : i < L.length) : rd_T39 (L.map enO) (i : Int) = enO (L[i]'h) := by
 simp [rd_T39, h]
theorem l06Find_eq (L : List PM.Ball) (c : PM.Ball) (hl : L.length ≤ 2000000000000) : ∀ k, L.length + 2 ≤ k → ∃ r, spec_l06Find.f k (L.map enO) c.lv c.top c.dn = some r ∧ (r < 0 ↔ c ∉ L) := by
 have go : ∀ (d k i : Nat), i + d = L.length → d < k → ∃ r, spec_l06Find.l0 k (L.map enO) i c.lv c.top c.dn = some r ∧ (r < 0 ↔ c ∉ L.drop i) := by
  intro d
  induction d with
  | zero =>
   intro k i hi hk
   obtain ⟨k, rfl⟩ : ∃ m, k = m + 1 := ⟨k - 1, by omega⟩
   refine ⟨-1, ?_, ?_⟩
   ·
    simp only [spec_l06Find.l0]
    rw [if_neg (by rw [List.length_map]; omega)]
   ·
    rw [List.drop_eq_nil_of_le (by omega)]; simp
  | succ d ih =>
   intro k i hi hk
   obtain ⟨k, rfl⟩ : ∃ m, k = m + 1 := ⟨k - 1, by omega⟩
   obtain ⟨r, h1, h2⟩ := ih k (i + 1) (by omega) (by omega)
   simp only [spec_l06Find.l0]
   rw [if_pos (by rw [List.length_map]; omega), if_pos (by omega), rdE L i (by omega), w64 (by omega) (by omega), show ((i : Int) + 1) = ((i + 1 : Nat) : Int) from by omega, h1]
   show ∃ r, (if ((L[i]'(by omega)).lv == c.lv && ((L[i]'(by omega)).top == c.top && ((L[i]'(by omega)).dn == c.dn))) = true then _ else _) = _ ∧ _
   by_cases h : L[i]'(by omega) = c
   ·
    refine ⟨i, by rw [if_pos ((enO_mem L c i (by omega)).mpr h)], ?_⟩
    rw [mem_drop_succ L c i (by omega)]
    exact ⟨fun z => by omega, fun z => absurd (Or.inl h) z⟩
   ·
    refine ⟨r, by rw [if_neg (fun z => h ((enO_mem L c i (by omega)).mp z))], ?_⟩
    rw [mem_drop_succ L c i (by omega), h2]
    exact ⟨fun z y => y.elim h z, fun z y => z (Or.inr y)⟩
 intro k hk
 obtain ⟨r, h1, h2⟩ := go L.length k 0 (by omega) (by omega)
 exact ⟨r, h1, by rwa [List.drop_zero] at h2⟩
theorem bcontains_eq (L : List PM.Ball) (c : PM.Ball) (hl : L.length ≤ 2000000000000) : ∀ k, L.length + 2 ≤ k → impl_Ball_106.f k (L.map enO) c.lv c.top c.dn = some (decide (c ∈ L)) := by
 have go : ∀ (d k i : Nat), i + d = L.length → d < k → ∃ r, impl_Ball_69.l0 k (L.map enO) ((L.map enO).length : Int) i c.lv c.top c.dn = some r ∧ (r ≥ 0 ↔ c ∈ L.drop i) := by
  intro d
  induction d with
  | zero =>
   intro k i hi hk
   obtain ⟨k, rfl⟩ : ∃ m, k = m + 1 := ⟨k - 1, by omega⟩
   refine ⟨-1, ?_, ?_⟩
   ·
    simp only [impl_Ball_69.l0]
    rw [if_neg (by rw [List.length_map]; omega)]
   ·
    rw [List.drop_eq_nil_of_le (by omega)]; simp
  | succ d ih =>
   intro k i hi hk
   obtain ⟨k, rfl⟩ : ∃ m, k = m + 1 := ⟨k - 1, by omega⟩
   obtain ⟨r, h1, h2⟩ := ih k (i + 1) (by omega) (by omega)
   simp only [impl_Ball_69.l0]
   rw [if_pos (by rw [List.length_map]; omega), if_pos (by omega), if_pos (by rw [List.length_map]; omega), rdE L i (by omega), w64 (by omega) (by omega), show ((i : Int) + 1) = ((i + 1 : Nat) : Int) from by omega, h1]
   have e : ((c.lv == (enO (L[i]'(by omega))).f0 && (c.top == (enO (L[i]'(by omega))).f1 && (c.dn == (enO (L[i]'(by omega))).f2))) = true) ↔ L[i]'(by omega) = c := by
    rw [← enO_mem L c i (by omega)]
    simp only [Bool.and_eq_true, beq_iff_eq]
    exact ⟨fun ⟨a, b, d⟩ => ⟨a.symm, b.symm, d.symm⟩, fun ⟨a, b, d⟩ => ⟨a.symm, b.symm, d.symm⟩⟩
   by_cases h : L[i]'(by omega) = c
   ·
    refine ⟨i, by rw [if_pos (e.mpr h)], ?_⟩
    rw [mem_drop_succ L c i (by omega)]
    exact ⟨fun _ => Or.inl h, fun _ => by omega⟩
   ·
    refine ⟨r, by rw [if_neg (fun z => h (e.mp z))], ?_⟩
    rw [mem_drop_succ L c i (by omega), h2]
    exact ⟨fun z => Or.inr z, fun z => z.elim (fun y => absurd y h) id⟩
 intro k hk
 obtain ⟨r, h1, h2⟩ := go L.length k 0 (by omega) (by omega)
 unfold impl_Ball_106.f impl_Ball_69.f
 rw [show ((0 : Nat) : Int) = 0 from rfl] at h1
 rw [h1]
 simp only [Option.bind_some]
 rw [List.drop_zero] at h2
 congr 1
 rw [Bool.eq_iff_iff, decide_eq_true_eq, decide_eq_true_eq]; exact h2

def mvX (p : Int) (x : S26) (b : PM.Ball) : Option PM.Ball := PM.moveB p x.f0.f0 x.f0.f1 x.f1.f0 x.f1.f1 b
def addB (p r : Int) (L : List PM.Ball) : Option PM.Ball → List PM.Ball
 | none => L
 | some c => if c ∈ L ∨ ¬ PM.dist p c ⟨0, 0, 0⟩ ≤ r then L else L ++ [c]
def rowB (p r : Int) (b : PM.Ball) : List S26 → List PM.Ball → List PM.Ball
 | [], L => L
 | x :: t, L => rowB p r b t (addB p r L (mvX p x b))
theorem zero_ok {p : Int} : PM.Ok p ⟨0, 0, 0⟩ := by
 unfold PM.Ok
 refine ⟨by decide, by decide, by decide, by decide, Or.inl ⟨by decide, rfl, rfl⟩⟩
def allM (l : List S26) : Prop := ∀ x, x ∈ l → PM.isM x.f0.f0 x.f0.f1 x.f1.f0 x.f1.f1
theorem add_good {p r : Int} (hp : Pr p) {L : List PM.Ball} (h : goodL p L) {x : S26} (hx : PM.isM x.f0.f0 x.f0.f1 x.f1.f0 x.f1.f1) (b : PM.Ball) : goodL p (addB p r L (mvX p x b)) := by
 cases e : mvX p x b with
 | none => exact h
 | some c =>
  unfold addB; simp only
  by_cases q : c ∈ L ∨ ¬ PM.dist p c ⟨0, 0, 0⟩ ≤ r
  ·
   rw [if_pos q]; exact h
  ·
   rw [if_neg q]
   refine ⟨?_, fun y hy => ?_⟩
   ·
    unfold List.Nodup
    rw [List.pairwise_append]
    refine ⟨h.1, List.pairwise_singleton _ _, fun a ha b hb => ?_⟩
    obtain rfl := List.mem_singleton.mp hb
    exact fun z => q (Or.inl (z ▸ ha))
   ·
    rcases List.mem_append.mp hy with hy | hy
    ·
     exact h.2 y hy
    ·
     obtain rfl := List.mem_singleton.mp hy
     exact PM.moveB_ok hp hx.2 e
theorem add_get {p r : Int} (L : List PM.Ball) (y : Option PM.Ball) (i : Nat) (b : PM.Ball) (h : L[i]? = some b) : (addB p r L y)[i]? = some b := by
 cases y with
 | none => exact h
 | some c =>
  unfold addB; simp only
  split
  ·
   exact h
  ·
   obtain ⟨hi, _⟩ := List.getElem?_eq_some_iff.mp h
   rw [List.getElem?_append_left hi]; exact h
theorem row_good {p r : Int} (hp : Pr p) (b : PM.Ball) : ∀ (l : List S26) (L : List PM.Ball), allM l → goodL p L → goodL p (rowB p r b l L)
 | [], _, _, h => h
 | x :: t, L, hl, h => row_good hp b t _ (fun y hy => hl y (List.mem_cons_of_mem _ hy)) (add_good hp h (hl x List.mem_cons_self) b)
theorem rdMn (suf pre : List S26) (x : S26) : rd_T26 (pre ++ x :: suf) ((pre.length : Nat) : Int) = x := by
 simp [rd_T26]
theorem rdE2 {L : List PM.Ball} {i : Nat} {b : PM.Ball} (h : L[i]? = some b) : rd_T39 (L.map enO) (i : Int) = enO b := by
 obtain ⟨hi, e⟩ := List.getElem?_eq_some_iff.mp h
 rw [rdE L i hi, e]
theorem map_snoc (L : List PM.Ball) (c : PM.Ball) : (L.map enO) ++ [(⟨c.lv, c.top, c.dn⟩ : S39)] = (L ++ [c]).map enO := by simp [enO]
theorem orow_impl {p r : Int} (hp : Pr p) (all : List S26) (hall : all.length ≤ 1000) (ha : allM all) {b : PM.Ball} (hb : PM.Ok p b) (i : Nat) (R : List S39 × Int) (K : Nat) : ∀ (suf pre : List S26) (L : List PM.Ball), all = pre ++ suf → goodL p L → L[i]? = some b →
  (∀ k, K ≤ k → impl_OrbitIn.l1 k p r all ((rowB p r b suf L).map enO) (wrap64 ((i : Int) + 1)) = some R) →
  ∀ k, K + 3000000000000 + suf.length + 1 ≤ k → impl_OrbitIn.l2 k p r all (L.map enO) (i : Int) all (all.length : Int) (pre.length : Int) = some R := by
 intro suf
 induction suf with
 | nil =>
  intro pre L e hg hi H k hk
  obtain ⟨k, rfl⟩ : ∃ m, k = m + 1 := ⟨k - 1, by omega⟩
  simp only [impl_OrbitIn.l2]
  rw [if_neg (by rw [e]; simp)]
  exact H k (by omega)
 | cons x suf ih =>
  intro pre L e hg hi H k hk
  obtain ⟨k, rfl⟩ : ∃ m, k = m + 1 := ⟨k - 1, by omega⟩
  have hlen : all.length = pre.length + suf.length + 1 := by rw [e]; simp; omega
  have hx := ha x (by rw [e]; simp)
  have hL := good_len hp hg
  obtain ⟨hi2, _⟩ := List.getElem?_eq_some_iff.mp hi
  rw [List.length_cons] at hk
  have step : ∀ L', L' = addB p r L (mvX p x b) → impl_OrbitIn.l2 k p r all (L'.map enO) (i : Int) all (all.length : Int) (wrap64 ((pre.length : Int) + 1)) = some R := by
   intro L' eL
   have := ih (pre ++ [x]) L' (by rw [e]; simp) (by rw [eL]; exact add_good hp hg hx b) (by rw [eL]; exact add_get L _ i b hi) (by rw [eL]; exact H) k (by omega)
   rw [w64 (by omega) (by omega)]
   simpa using this
  simp only [impl_OrbitIn.l2]
  rw [if_pos (by omega), if_pos (by omega), if_pos (by omega), if_pos (by omega), if_pos (by rw [List.length_map]; omega), rdE2 hi]
  rw [show rd_T26 all (pre.length : Int) = x by rw [e]; exact rdMn suf pre x]
  have em : impl_moveBall.f k p x.f0.f0 x.f0.f1 x.f1.f0 x.f1.f1 (enO b).f0 (enO b).f1 (enO b).f2 = some (enc (mvX p x b)) := moveBall_eq hp hx hb k (by omega)
  rw [em]
  simp only [Option.bind_some]
  cases ey : mvX p x b with
  | none =>
   rw [ey] at step
   rw [if_neg (show ¬ (enc none).2.2.2 = true by decide)]
   exact step L rfl
  | some c =>
   rw [ey] at step
   have hc : PM.Ok p c := PM.moveB_ok hp hx.2 ey
   simp only [enc]
   rw [if_pos trivial, bcontains_eq L c (by omega) k (by omega)]
   simp only [Option.bind_some]
   by_cases q : c ∈ L
   ·
    rw [decide_eq_true q, if_pos rfl]
    exact step L (by unfold addB; simp only; rw [if_pos (Or.inl q)])
   ·
    rw [decide_eq_false q, if_neg (by simp)]
    have ed : impl_distance.f k p c.lv c.top c.dn 0 0 0 = some (PM.dist p c ⟨0, 0, 0⟩) := distance_eq hp hc zero_ok k (by omega)
    rw [ed]
    simp only [Option.bind_some]
    by_cases d : PM.dist p c ⟨0, 0, 0⟩ ≤ r
    ·
     rw [if_pos d, if_pos (by rw [List.length_map]; omega), map_snoc]
     exact step _ (by unfold addB; simp only; rw [if_neg (fun z => z.elim q (fun y => y d))])
    ·
     rw [if_neg d]
     exact step L (by unfold addB; simp only; rw [if_pos (Or.inr d)])
theorem orow_spec {p r : Int} (hp : Pr p) (all : List S26) (hall : all.length ≤ 1000) (ha : allM all) {b : PM.Ball} (hb : PM.Ok p b) (i : Nat) (R : List S39 × Int) (K : Nat) : ∀ (suf pre : List S26) (L : List PM.Ball), all = pre ++ suf → goodL p L → L[i]? = some b →
  (∀ k, K ≤ k → spec_OrbitIn.l1 k p r all ((rowB p r b suf L).map enO) (wrap64 ((i : Int) + 1)) = some R) →
  ∀ k, K + 3000000000000 + suf.length + 1 ≤ k → spec_OrbitIn.l2 k p r all (L.map enO) (i : Int) (pre.length : Int) = some R := by
 intro suf
 induction suf with
 | nil =>
  intro pre L e hg hi H k hk
  obtain ⟨k, rfl⟩ : ∃ m, k = m + 1 := ⟨k - 1, by omega⟩
  simp only [spec_OrbitIn.l2]
  rw [if_neg (by rw [e]; simp)]
  exact H k (by omega)
 | cons x suf ih =>
  intro pre L e hg hi H k hk
  obtain ⟨k, rfl⟩ : ∃ m, k = m + 1 := ⟨k - 1, by omega⟩
  have hlen : all.length = pre.length + suf.length + 1 := by rw [e]; simp; omega
  have hx := ha x (by rw [e]; simp)
  have hL := good_len hp hg
  obtain ⟨hi2, _⟩ := List.getElem?_eq_some_iff.mp hi
  rw [List.length_cons] at hk
  have step : ∀ L', L' = addB p r L (mvX p x b) → spec_OrbitIn.l2 k p r all (L'.map enO) (i : Int) (wrap64 ((pre.length : Int) + 1)) = some R := by
   intro L' eL
   have := ih (pre ++ [x]) L' (by rw [e]; simp) (by rw [eL]; exact add_good hp hg hx b) (by rw [eL]; exact add_get L _ i b hi) (by rw [eL]; exact H) k (by omega)
   rw [w64 (by omega) (by omega)]
   simpa using this
  simp only [spec_OrbitIn.l2]
  rw [if_pos (by omega), if_pos (by omega), if_pos (by omega), if_pos (by rw [List.length_map]; omega), rdE2 hi]
  rw [show rd_T26 all (pre.length : Int) = x by rw [e]; exact rdMn suf pre x]
  have em : spec_l04Move.f k p x.f0.f0 x.f0.f1 x.f1.f0 x.f1.f1 (enO b).f0 (enO b).f1 (enO b).f2 = some (enc (mvX p x b)) := l04Move_eq hp hx hb k (by omega)
  rw [em]
  simp only [Option.bind_some]
  cases ey : mvX p x b with
  | none =>
   rw [ey] at step
   rw [if_neg (show ¬ (enc none).2.2.2 = true by decide)]
   exact step L rfl
  | some c =>
   rw [ey] at step
   have hc : PM.Ok p c := PM.moveB_ok hp hx.2 ey
   simp only [enc]
   have ed : spec_l02Distance.f k p 0 0 0 c.lv c.top c.dn = some (PM.dist p c ⟨0, 0, 0⟩) := by rw [PM.dist_comm p c]; exact l02Distance_eq hp zero_ok hc k (by omega)
   rw [if_pos trivial, ed]
   simp only [Option.bind_some]
   by_cases d : PM.dist p c ⟨0, 0, 0⟩ ≤ r
   ·
    obtain ⟨n, hn, hs⟩ := l06Find_eq L c (by omega) k (by omega)
    rw [if_pos d, hn]
    simp only [Option.bind_some]
    by_cases q : c ∈ L
    ·
     rw [if_neg (fun z => (hs.mp z) q)]
     exact step L (by unfold addB; simp only; rw [if_pos (Or.inl q)])
    ·
     rw [if_pos (hs.mpr q), if_pos (by rw [List.length_map]; omega), map_snoc]
     exact step _ (by unfold addB; simp only; rw [if_neg (fun z => z.elim q (fun y => y d))])
   ·
    rw [if_neg d]
    exact step L (by unfold addB; simp only; rw [if_pos (Or.inr d)])
theorem orb_both {p r : Int} (hp : Pr p) (all : List S26) (hall : all.length ≤ 1000) (ha : allM all) : ∀ (d i : Nat) (L : List PM.Ball), i + d = 1259557135292 → goodL p L →
  ∃ R : List S39 × Int, R.1.length ≤ 1259557135291 ∧ (∃ K, ∀ k, K ≤ k → impl_OrbitIn.l1 k p r all (L.map enO) (i : Int) = some R) ∧ (∃ K, ∀ k, K ≤ k → spec_OrbitIn.l1 k p r all (L.map enO) (i : Int) = some R) := by
 intro d
 have stop : ∀ (i : Nat) (L : List PM.Ball), goodL p L → ¬ i < L.length → ∃ R : List S39 × Int, R.1.length ≤ 1259557135291 ∧ (∃ K, ∀ k, K ≤ k → impl_OrbitIn.l1 k p r all (L.map enO) (i : Int) = some R) ∧ (∃ K, ∀ k, K ≤ k → spec_OrbitIn.l1 k p r all (L.map enO) (i : Int) = some R) := by
  intro i L hg q
  have hL := good_len hp hg
  refine ⟨(L.map enO, 0), by simp only [List.length_map]; exact hL, ⟨1, fun k hk => ?_⟩, ⟨1, fun k hk => ?_⟩⟩
  ·
   obtain ⟨k, rfl⟩ : ∃ m, k = m + 1 := ⟨k - 1, by omega⟩
   simp only [impl_OrbitIn.l1]
   rw [if_neg (by rw [List.length_map]; omega)]
  ·
   obtain ⟨k, rfl⟩ : ∃ m, k = m + 1 := ⟨k - 1, by omega⟩
   simp only [spec_OrbitIn.l1]
   rw [if_neg (by rw [List.length_map]; omega)]
 induction d with
 | zero =>
  intro i L hi hg
  have hL := good_len hp hg
  exact stop i L hg (by omega)
 | succ d ih =>
  intro i L hi hg
  have hL := good_len hp hg
  by_cases q : i < L.length
  ·
   have hb : L[i]? = some (L[i]'q) := List.getElem?_eq_getElem q
   have ob := hg.2 _ (List.getElem_mem q)
   obtain ⟨R, h0, ⟨K1, h1⟩, ⟨K2, h2⟩⟩ := ih (i + 1) (rowB p r (L[i]'q) all L) (by omega) (row_good hp _ all L ha hg)
   have ew : wrap64 ((i : Int) + 1) = ((i + 1 : Nat) : Int) := by rw [w64 (by omega) (by omega)]; omega
   refine ⟨R, h0, ⟨K1 + 3000000000000 + all.length + 2, fun k hk => ?_⟩, ⟨K2 + 3000000000000 + all.length + 2, fun k hk => ?_⟩⟩
   ·
    obtain ⟨k, rfl⟩ : ∃ m, k = m + 1 := ⟨k - 1, by omega⟩
    simp only [impl_OrbitIn.l1]
    rw [if_pos (by rw [List.length_map]; omega)]
    exact orow_impl hp all hall ha ob i R K1 all [] L rfl hg hb (fun k hk => by rw [ew]; exact h1 k hk) k (by omega)
   ·
    obtain ⟨k, rfl⟩ : ∃ m, k = m + 1 := ⟨k - 1, by omega⟩
    simp only [spec_OrbitIn.l1]
    rw [if_pos (by rw [List.length_map]; omega)]
    exact orow_spec hp all hall ha ob i R K2 all [] L rfl hg hb (fun k hk => by rw [ew]; exact h2 k hk) k (by omega)
  ·
   exact stop i L hg q

def inX (x : S26) : S26 := ⟨⟨(PM.red x.f1.f1 (-x.f0.f1) (-x.f1.f0) x.f0.f0).1, (PM.red x.f1.f1 (-x.f0.f1) (-x.f1.f0) x.f0.f0).2.1⟩, ⟨(PM.red x.f1.f1 (-x.f0.f1) (-x.f1.f0) x.f0.f0).2.2.1, (PM.red x.f1.f1 (-x.f0.f1) (-x.f1.f0) x.f0.f0).2.2.2⟩⟩
theorem orb_l0_impl (p r : Int) (l : List S26) (hl : l.length ≤ 6) (hm : allM l) (lv top dn : Int) (R : List S39 × Int) (K : Nat) : ∀ (suf pre acc : List S26), l = pre ++ suf → acc.length ≤ 6 + pre.length →
  (∀ k, K ≤ k → impl_OrbitIn.l1 k p r (acc ++ suf.map inX) [⟨lv, top, dn⟩] 0 = some R) → ∃ K', ∀ k, K' ≤ k → impl_OrbitIn.l0 k p r acc l (l.length : Int) (pre.length : Int) lv top dn = some R := by
 intro suf
 induction suf with
 | nil =>
  intro pre acc e ha H
  refine ⟨K + 1, fun k hk => ?_⟩
  obtain ⟨k, rfl⟩ : ∃ m, k = m + 1 := ⟨k - 1, by omega⟩
  simp only [impl_OrbitIn.l0]
  rw [if_neg (by rw [e]; simp)]
  have := H k (by omega)
  simpa using this
 | cons x suf ih =>
  intro pre acc e ha H
  have hlen : l.length = pre.length + suf.length + 1 := by rw [e]; simp; omega
  have hx := hm x (by rw [e]; simp)
  obtain ⟨K1, h1⟩ := inverted_eq hx
  obtain ⟨K2, h2⟩ := ih (pre ++ [x]) (acc ++ [inX x]) (by rw [e]; simp) (by simp; omega) (fun k hk => by
   have := H k hk
   simpa [List.append_assoc] using this)
  refine ⟨K1 + K2 + 1, fun k hk => ?_⟩
  obtain ⟨k, rfl⟩ : ∃ m, k = m + 1 := ⟨k - 1, by omega⟩
  simp only [impl_OrbitIn.l0]
  rw [if_pos (by omega), if_pos (by omega), if_pos (by omega), show rd_T26 l (pre.length : Int) = x by rw [e]; exact rdMn suf pre x, h1 k (by omega)]
  simp only [Option.bind_some]
  rw [if_pos (by omega), w64 (by omega) (by omega)]
  have := h2 k (by omega)
  simpa [inX] using this
theorem orb_l0_spec (p r : Int) (l : List S26) (hl : l.length ≤ 6) (hm : allM l) (lv top dn : Int) (R : List S39 × Int) (K : Nat) : ∀ (suf pre acc : List S26), l = pre ++ suf → acc.length ≤ 6 + pre.length →
  (∀ k, K ≤ k → spec_OrbitIn.l1 k p r (acc ++ suf.map inX) [⟨lv, top, dn⟩] 0 = some R) → ∃ K', ∀ k, K' ≤ k → spec_OrbitIn.l0 k p l r acc (pre.length : Int) lv top dn = some R := by
 intro suf
 induction suf with
 | nil =>
  intro pre acc e ha H
  refine ⟨K + 1, fun k hk => ?_⟩
  obtain ⟨k, rfl⟩ : ∃ m, k = m + 1 := ⟨k - 1, by omega⟩
  simp only [spec_OrbitIn.l0]
  rw [if_neg (by rw [e]; simp)]
  have := H k (by omega)
  simpa using this
 | cons x suf ih =>
  intro pre acc e ha H
  have hlen : l.length = pre.length + suf.length + 1 := by rw [e]; simp; omega
  have hx := hm x (by rw [e]; simp)
  obtain ⟨K1, h1⟩ := l04Inverse_eq hx
  obtain ⟨K2, h2⟩ := ih (pre ++ [x]) (acc ++ [inX x]) (by rw [e]; simp) (by simp; omega) (fun k hk => by
   have := H k hk
   simpa [List.append_assoc] using this)
  refine ⟨K1 + K2 + 1, fun k hk => ?_⟩
  obtain ⟨k, rfl⟩ : ∃ m, k = m + 1 := ⟨k - 1, by omega⟩
  simp only [spec_OrbitIn.l0]
  rw [if_pos (by omega), if_pos (by omega), show rd_T26 l (pre.length : Int) = x by rw [e]; exact rdMn suf pre x, h1 k (by omega)]
  simp only [Option.bind_some]
  rw [if_pos (by omega), w64 (by omega) (by omega)]
  have := h2 k (by omega)
  simpa [inX] using this
theorem inX_M {x : S26} (h : PM.isM x.f0.f0 x.f0.f1 x.f1.f0 x.f1.f1) : PM.isM (inX x).f0.f0 (inX x).f0.f1 (inX x).f1.f0 (inX x).f1.f1 := by
 have h2 : PM.isM x.f1.f1 (-x.f0.f1) (-x.f1.f0) x.f0.f0 := by
  obtain ⟨⟨a, b, c, d⟩, e⟩ := h
  refine ⟨⟨by omega, by omega, by omega, by omega⟩, ?_⟩
  rw [Int.neg_mul_neg, Int.mul_comm]; exact e
 exact (PM.red_isM h2.2).mpr (PM.red_small h2)
def orbC (p : Int) (l : List S26) (r : Int) : Int := if Pr p then (if l.all mOk = true then (if (l.length : Int) < 1 ∨ (l.length : Int) > 6 then 2 else (if 0 ≤ r ∧ r ≤ 3 then 0 else 2)) else 1) else 1
theorem orbC0 {p r : Int} {l : List S26} (h : orbC p l r = 0) : Pr p ∧ allM l ∧ l.length ≤ 6 ∧ 0 ≤ r ∧ r ≤ 3 := by
 unfold orbC at h
 by_cases a : Pr p
 ·
  rw [if_pos a] at h
  by_cases b : l.all mOk = true
  ·
   rw [if_pos b] at h
   by_cases c : (l.length : Int) < 1 ∨ (l.length : Int) > 6
   ·
    rw [if_pos c] at h; omega
   ·
    rw [if_neg c] at h
    by_cases d : 0 ≤ r ∧ r ≤ 3
    ·
     exact ⟨a, fun x hx => of_decide_eq_true (List.all_eq_true.mp b x hx), by omega, d⟩
    ·
     rw [if_neg d] at h; omega
  ·
   rw [if_neg b] at h; omega
 ·
  rw [if_neg a] at h; omega
theorem regionCode_eq (p : Int) (l : List S26) (r : Int) (hl : l.length ≤ 1048576) : ∃ K, ∀ k, K ≤ k → impl_regionCode.f k p l r = some (orbC p l r) := by
 obtain ⟨K, h⟩ := areMatrices_eq l (by omega)
 refine ⟨K, fun k hk => ?_⟩
 unfold impl_regionCode.f impl_moversCode.f impl_isRadius.f orbC
 rw [isPrime_eq, prime_dec, h k hk]
 by_cases a : Pr p
 ·
  rw [decide_eq_true a, if_pos a]
  simp only [Option.bind_some, if_true]
  by_cases b : l.all mOk = true
  ·
   rw [if_pos b, if_pos b]
   by_cases c1 : (l.length : Int) < 1
   ·
    rw [if_pos c1, if_pos (Or.inl c1)]; rfl
   ·
    rw [if_neg c1]
    by_cases c2 : (l.length : Int) > 6
    ·
     rw [if_pos c2, if_pos (Or.inr c2)]; rfl
    ·
     rw [if_neg c2, if_neg (show ¬ ((l.length : Int) < 1 ∨ (l.length : Int) > 6) from fun z => z.elim c1 c2)]
     simp only [Option.bind_some, if_true]
     by_cases e : 0 ≤ r ∧ r ≤ 3
     ·
      rw [if_pos e, if_pos e.1, decide_eq_true e.2]; rfl
     ·
      rw [if_neg e]
      by_cases g : r ≥ 0
      ·
       rw [if_pos g, decide_eq_false (by omega)]; rfl
      ·
       rw [if_neg g]; rfl
  ·
   rw [if_neg b, if_neg b]; rfl
 ·
  rw [decide_eq_false a, if_neg a]; rfl
theorem l06Code_eq (p : Int) (l : List S26) (r : Int) (hl : l.length ≤ 1048576) : ∀ k, 1048580 ≤ k → spec_l06Code.f k p l r = some (orbC p l r) := by
 intro k hk
 unfold spec_l06Code.f orbC
 rw [prime_dec, l06Movers_eq l 6 (by omega) k (by omega), in_eq]
 by_cases a : Pr p
 ·
  rw [decide_eq_true a, if_pos a]
  simp only [Option.bind_some, if_true]
  by_cases b : l.all mOk = true
  ·
   rw [if_pos b, if_pos b]
   by_cases c : (l.length : Int) < 1 ∨ (l.length : Int) > 6
   ·
    rw [if_pos c, if_pos c]; rfl
   ·
    rw [if_neg c, if_neg c]
    simp only [if_true]
    by_cases e : 0 ≤ r ∧ r ≤ 3
    ·
     rw [if_pos e, decide_eq_true e]; rfl
    ·
     rw [if_neg e, decide_eq_false e]; rfl
  ·
   rw [if_neg b, if_neg b]; rfl
 ·
  rw [decide_eq_false a, if_neg a]; rfl


theorem both_res (p : Int) (l : List S26) (lv top dn r : Int) (hl : l.length ≤ 1048576) : ∃ R : List S39 × Int, R.1.length ≤ 1259557135291 ∧ (∃ K, ∀ k, K ≤ k → impl_OrbitIn.f k p l lv top dn r = some R) ∧ (∃ K, ∀ k, K ≤ k → spec_OrbitIn.f k p l lv top dn r = some R) := by
 obtain ⟨Ka, ha⟩ := l01Code_eq p [⟨lv, top, dn⟩] (by simp)
 obtain ⟨Kb, hb⟩ := regionCode_eq p l r hl
 have e0 : (Pr p ∧ [(⟨lv, top, dn⟩ : S39)].all (bOk p) = true) ↔ (Pr p ∧ PM.Ok p ⟨lv, top, dn⟩) := by simp [bOk]
 by_cases c1 : Pr p ∧ PM.Ok p ⟨lv, top, dn⟩
 ·
  by_cases c2 : orbC p l r = 0
  ·
   obtain ⟨hp, hm, h6, hr⟩ := orbC0 c2
   by_cases c3 : PM.dist p ⟨lv, top, dn⟩ ⟨0, 0, 0⟩ > r
   ·
    refine ⟨([], 2), by simp, ⟨Kb + 1000, fun k hk => ?_⟩, ⟨Ka + 1048580, fun k hk => ?_⟩⟩
    ·
     unfold impl_OrbitIn.f
     rw [IsBall_eq p lv top dn k (by omega), decide_eq_true c1, hb k (by omega), c2]
     simp only [Option.bind_some, if_true]
     rw [distance_eq hp c1.2 zero_ok k (by omega)]
     simp only [Option.bind_some]
     rw [if_pos c3]
    ·
     unfold spec_OrbitIn.f
     rw [ha k (by omega), if_pos (e0.mpr c1), l06Code_eq p l r hl k (by omega), c2]
     simp only [Option.bind_some, if_true]
     rw [l02Distance_eq hp zero_ok c1.2 k (by omega)]
     simp only [Option.bind_some]
     rw [PM.dist_comm p ⟨0, 0, 0⟩, if_pos c3]
   ·
    have hall : allM (l ++ l.map inX) := by
     intro x hx
     rcases List.mem_append.mp hx with hx | hx
     ·
      exact hm x hx
     ·
      obtain ⟨y, hy, rfl⟩ := List.mem_map.mp hx
      exact inX_M (hm y hy)
    have hg : goodL p [⟨lv, top, dn⟩] := ⟨List.pairwise_singleton _ _, fun x hx => by
     obtain rfl := List.mem_singleton.mp hx
     exact c1.2⟩
    obtain ⟨R, h0, ⟨K1, h1⟩, ⟨K2, h2⟩⟩ := orb_both (r := r) hp (l ++ l.map inX) (by simp; omega) hall 1259557135292 0 [⟨lv, top, dn⟩] (by omega) hg
    obtain ⟨K3, h3⟩ := orb_l0_impl p r l h6 hm lv top dn R K1 l [] l rfl (by simp; omega) h1
    obtain ⟨K4, h4⟩ := orb_l0_spec p r l h6 hm lv top dn R K2 l [] l rfl (by simp; omega) h2
    refine ⟨R, h0, ⟨Kb + K3 + 1000, fun k hk => ?_⟩, ⟨Ka + K4 + 1048580, fun k hk => ?_⟩⟩
    ·
     unfold impl_OrbitIn.f impl_Matrix.f
     rw [IsBall_eq p lv top dn k (by omega), decide_eq_true c1, hb k (by omega), c2]
     simp only [Option.bind_some, if_true]
     rw [distance_eq hp c1.2 zero_ok k (by omega)]
     simp only [Option.bind_some]
     rw [if_neg c3, if_pos (by omega)]
     exact h3 k (by omega)
    ·
     unfold spec_OrbitIn.f
     rw [ha k (by omega), if_pos (e0.mpr c1), l06Code_eq p l r hl k (by omega), c2]
     simp only [Option.bind_some, if_true]
     rw [l02Distance_eq hp zero_ok c1.2 k (by omega)]
     simp only [Option.bind_some]
     rw [PM.dist_comm p ⟨0, 0, 0⟩, if_neg c3, if_pos (by simp; omega), List.nil_append]
     exact h4 k (by omega)
  ·
   refine ⟨([], orbC p l r), by simp, ⟨Kb + 1000, fun k hk => ?_⟩, ⟨Ka + 1048580, fun k hk => ?_⟩⟩
   ·
    unfold impl_OrbitIn.f
    rw [IsBall_eq p lv top dn k (by omega), decide_eq_true c1, hb k (by omega)]
    simp only [Option.bind_some, if_true]
    rw [if_neg c2]
   ·
    unfold spec_OrbitIn.f
    rw [ha k (by omega), if_pos (e0.mpr c1), l06Code_eq p l r hl k (by omega)]
    simp only [Option.bind_some, if_true]
    rw [if_neg c2]
 ·
  refine ⟨([], 1), by simp, ⟨1000, fun k hk => ?_⟩, ⟨Ka, fun k hk => ?_⟩⟩
  ·
   unfold impl_OrbitIn.f
   rw [IsBall_eq p lv top dn k (by omega), decide_eq_false c1]
   simp
  ·
   unfold spec_OrbitIn.f
   rw [ha k (by omega), if_neg (fun z => c1 (e0.mp z))]
   simp
theorem FnExactOrbitIn (p : Int) (l : List S23) (lv top dn r : Int) (_ : (Lit.int .i64 p).wf = true) (hl : l.length ≤ 9223372036854775807) (_ : (Lit.int .i64 lv).wf = true) (_ : (Lit.int .i64 top).wf = true) (_ : (Lit.int .i64 dn).wf = true) (_ : (Lit.int .i64 r).wf = true) : ∃ k, laws_FnExactOrbitIn.f k p l lv top dn r = some true := by
 by_cases hs : l.length ≤ 1048576
 ·
  obtain ⟨K0, h0⟩ := toMats_eq l hs
  have hm : (l.map cvM).length ≤ 1048576 := by rw [List.length_map]; exact hs
  obtain ⟨R, hR, ⟨K2, h2⟩, ⟨K1, h1⟩⟩ := both_res p (l.map cvM) lv top dn r hm
  obtain ⟨K3, h3⟩ := eqMats (l.map cvM) hm
  obtain ⟨K4, h4⟩ := markMats (l.map cvM) hm
  have h5 := eqBalls R.1 (by omega)
  obtain ⟨m, h6, h7⟩ := markBalls R.1 (by omega)
  refine ⟨K0 + K1 + K2 + K3 + K4 + R.1.length + 1 + 1 + 1 + 1, ?_⟩
  unfold laws_FnExactOrbitIn.f laws_toBall.f
  rw [sz_small l hs]
  simp only [Option.bind_some]
  rw [if_neg (by omega), h0 _ (by omega)]
  simp only [Option.bind_some]
  rw [h1 _ (by omega)]
  simp only [Option.bind_some]
  rw [h2 _ (by omega)]
  simp only [Option.bind_some]
  rw [h5 _ (by omega)]
  simp only [Option.bind_some, if_true, bne_self_eq_false, laws_FnExactOrbitIn.j0]
  rw [if_neg (by simp), h0 _ (by omega)]
  simp only [Option.bind_some]
  rw [h3 _ (by omega)]
  simp only [Option.bind_some, if_true]
  rw [h4 _ (by omega)]
  simp only [Option.bind_some]
  rw [if_neg (by omega), h5 _ (by omega)]
  simp only [Option.bind_some, if_true, laws_FnExactOrbitIn.j1]
  rw [if_neg (by simp), h6 _ (by omega)]
  simp only [Option.bind_some]
  rw [h7 _ (by omega)]
  simp only [Option.bind_some]
  rw [if_neg (by omega), if_pos trivial, h0 _ (by omega)]
  unfold laws_toBall.f
  simp only [Option.bind_some]
  rw [h2 _ (by omega)]
  simp only [Option.bind_some]
  rw [h5 _ (by omega)]
  simp only [Option.bind_some, if_true, bne_self_eq_false, laws_FnExactOrbitIn.j2]
  rw [if_neg (by simp), h7 _ (by omega)]
  simp only [Option.bind_some]
  rw [if_neg (by omega), if_pos trivial]
 ·
  refine ⟨0, ?_⟩
  unfold laws_FnExactOrbitIn.f
  rw [sz_large l hs hl]
  simp only [Option.bind_some]
  rw [if_pos (by omega)]

end Go.Proofs.Ytccpccnnbacgjaa.Pure
