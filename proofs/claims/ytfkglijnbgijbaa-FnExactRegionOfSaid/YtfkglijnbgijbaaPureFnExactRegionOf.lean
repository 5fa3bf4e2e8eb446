/- The program's RegionOf and the reference's return the same, for all arguments: the printed functions' law answers true. -/
import Derived.Test.YtfkglijnbgijbaaQLFnExactRegionOf
import Derived.Test.YtfkglijnbgijbaaMath
set_option linter.unusedVariables false
set_option linter.unusedSimpArgs false
namespace Go.Proofs.Ytfkglijnbgijbaa.Pure
open Go.RowKit Go.Proofs.Ytfkglijnbgijbaa.PAll Go.Proofs.YtfkglijnbgijbaaW.PrintWords Go.Proofs.YtfkglijnbgijbaaW.PrintLast PM

theorem w64 {n : Int} (h1 : -9223372036854775808 ≤ n) (h2 : n ≤ 9223372036854775807) : wrap64 n = n := by unfold wrap64; omega
theorem wfb {n : Int} (h : (Lit.int .i64 n).wf = true) : -9223372036854775808 ≤ n ∧ n ≤ 9223372036854775807 := by
  simp [Lit.wf, IntKind.min, IntKind.max, IntKind.bits, IntKind.signed] at h; omega
theorem rd_nat (l : List Int) (i : Nat) (h : i < l.length) : l[i]? = some (rd l (i : Int)) := by
  unfold rd; simp [List.getD_eq_getElem?_getD, h]

theorem prime_cases (p : Int) : (spec_l01Prime.f p = some true ∧ (p = 2 ∨ p = 3 ∨ p = 5 ∨ p = 7)) ∨ (spec_l01Prime.f p = some false ∧ ¬ (p = 2 ∨ p = 3 ∨ p = 5 ∨ p = 7)) := by
  unfold spec_l01Prime.f
  by_cases h2 : p = 2
  · simp [h2]
  by_cases h3 : p = 3
  · simp [h3]
  by_cases h5 : p = 5
  · simp [h5]
  by_cases h7 : p = 7
  · simp [h7]
  · simp [h2, h3, h5, h7]

theorem isPrime_eq (p : Int) : impl_isPrime.f p = spec_l01Prime.f p := rfl

theorem in_eq (n a b : Int) : spec_l01In.f n a b = some (decide (a ≤ n ∧ n ≤ b)) := by
  unfold spec_l01In.f
  by_cases h : a ≤ n
  · rw [if_pos h]; simp [h]
  · rw [if_neg (by omega)]; simp [h]

/-- all numbers of a list have absolute values of at most so much -/
def allB (m : Int) (l : List Int) : Bool := l.all fun x => decide (-m ≤ x ∧ x ≤ m)
theorem allB_drop (m : Int) (l : List Int) (i : Nat) (h : i < l.length) : allB m (l.drop i) = (decide (-m ≤ rd l i ∧ rd l i ≤ m) && allB m (l.drop (i + 1))) := by
  have h1 := rd_nat l i h
  rw [List.getElem?_eq_getElem h] at h1
  rw [List.drop_eq_getElem_cons h, Option.some.inj h1]; rfl
theorem allB_rd {m : Int} {l : List Int} (h : allB m l = true) {i : Int} (h0 : 0 ≤ i) (h1 : i < l.length) : -m ≤ rd l i ∧ rd l i ≤ m := by
  obtain ⟨n, rfl⟩ := Int.eq_ofNat_of_zero_le h0
  have h2 := rd_nat l n (by omega)
  rw [List.getElem?_eq_getElem (by omega)] at h2
  unfold allB at h
  rw [List.all_eq_true] at h
  have := h (l[n]'(by omega)) (List.getElem_mem _)
  rw [Option.some.inj h2] at this
  simpa using this

/-- the first child of a place, how many there are, and all of them -/
def fc (p i : Int) : Int := if i = 0 then 1 else p + 2 + (i - 1) * p
def cn (p i : Int) : Int := if i = 0 then p + 1 else p
def kids (p i : Int) (n : Nat) : List Int := (List.range n).map fun j : Nat => fc p i + (j : Int)
theorem fc_bd (p i : Int) (hp : p = 2 ∨ p = 3 ∨ p = 5 ∨ p = 7) (h0 : 0 ≤ i) (h1 : i ≤ 5000) : i < fc p i ∧ 1 ≤ fc p i ∧ fc p i ≤ 40000 ∧ 2 ≤ cn p i ∧ cn p i ≤ 8 ∧ fc p i + cn p i = p * i + p + 2 := by
  unfold fc cn
  rcases hp with rfl | rfl | rfl | rfl <;> split <;> omega
theorem kids_succ (p i : Int) (n : Nat) : kids p i (n + 1) = kids p i n ++ [fc p i + (n : Int)] := by
  unfold kids; rw [List.range_succ, List.map_append]; rfl
theorem kids_length (p i : Int) (n : Nat) : (kids p i n).length = n := by simp [kids]
theorem kids_rd (p i : Int) (n j : Nat) (h : j < n) : rd (kids p i n) (j : Int) = fc p i + (j : Int) := by
  have := rd_nat (kids p i n) j (by rw [kids_length]; exact h)
  simp only [kids, List.getElem?_map] at this
  rw [List.getElem?_range h] at this
  exact (Option.some.inj this).symm

/-- a sum of so many values from a place on -/
def sumC (f : List Int) (a : Int) : Nat → Int → Int
  | 0, s => s
  | n + 1, s => sumC f (a + 1) n (wrap64 (s + rd f a))
theorem place_bd (p i : Int) (hp : p = 2 ∨ p = 3 ∨ p = 5 ∨ p = 7) (h0 : 1 ≤ i) (h1 : i ≤ 5000) : 0 ≤ (if i ≤ p + 1 then 0 else (i - p - 2) / p + 1) ∧ (if i ≤ p + 1 then 0 else (i - p - 2) / p + 1) < i := by
  rcases hp with rfl | rfl | rfl | rfl <;> split <;> omega

theorem all_drop {α : Type} (P : α → Bool) (l : List α) (i : Nat) (h : i < l.length) : (l.drop i).all P = (P (l[i]'h) && (l.drop (i + 1)).all P) := by
  rw [List.drop_eq_getElem_cons h]; rfl
theorem prDef (p : Int) : PM.Pr p = (p = 2 ∨ p = 3 ∨ p = 5 ∨ p = 7) := rfl
theorem tmod_zero_iff (n p : Int) : n.tmod p = 0 ↔ p ∣ n := Int.dvd_iff_tmod_eq_zero.symm

theorem val_eq (p n : Int) (hp : Pr p) (hn : n ≠ 0) (hb : n.natAbs ≤ 9223372036854775807) : ∀ k, 70 ≤ k → spec_l01Val.f k p n = some (vl p n : Int) := by
  have hp2 := hp.pos
  have go : ∀ (v k : Nat) (n s : Int), n ≠ 0 → n.natAbs ≤ 9223372036854775807 → vl p n = v → v < k → 0 ≤ s → s + v ≤ 1000000 → spec_l01Val.l0 k p n s = some (s + v) := by
    intro v
    induction v with
    | zero =>
      intro k n s hn hb hv hk h0 h1
      obtain ⟨k, rfl⟩ : ∃ m, k = m + 1 := ⟨k - 1, by omega⟩
      simp only [spec_l01Val.l0]
      rw [if_neg (by omega), if_neg (by rw [tmod_zero_iff]; exact (vl_zero_iff hp hn).1 hv)]
      simp
    | succ v ih =>
      intro k n s hn hb hv hk h0 h1
      obtain ⟨k, rfl⟩ : ∃ m, k = m + 1 := ⟨k - 1, by omega⟩
      have hd : p ∣ n := Decidable.byContradiction fun h => by have := (vl_zero_iff hp hn).2 h; omega
      obtain ⟨g1, g2, g3⟩ := vl_step hp hn hd
      simp only [spec_l01Val.l0]
      rw [if_neg (by omega), if_pos (by rw [tmod_zero_iff]; exact hd), w64 (n := n.tdiv p) (by omega) (by omega), w64 (n := s + 1) (by omega) (by omega), ih k _ _ g1 (by omega) (by omega) (by omega) (by omega) (by omega)]
      congr 1; omega
  intro k hk
  have hle := vl_le63 hp hn (by omega)
  unfold spec_l01Val.f
  rw [go (vl p n) k n 0 hn hb rfl (by omega) (by omega) (by omega)]
  congr 1; omega

theorem valuation_eq (p n : Int) (hp : Pr p) (hb : n.natAbs ≤ 9223372036854775807) : ∀ k, 70 ≤ k → impl_valuation.f k p n = some (vz p n) := by
  have hp2 := hp.pos
  have go : ∀ (v k : Nat) (n s : Int), n ≠ 0 → n.natAbs ≤ 9223372036854775807 → vl p n = v → v < k → 0 ≤ s → s + v ≤ 1000000 → impl_valuation.l0 k p n s = some (s + v) := by
    intro v
    induction v with
    | zero =>
      intro k n s hn hb hv hk h0 h1
      obtain ⟨k, rfl⟩ : ∃ m, k = m + 1 := ⟨k - 1, by omega⟩
      simp only [impl_valuation.l0]
      rw [if_neg (by omega), if_neg (by rw [tmod_zero_iff]; exact (vl_zero_iff hp hn).1 hv)]
      simp
    | succ v ih =>
      intro k n s hn hb hv hk h0 h1
      obtain ⟨k, rfl⟩ : ∃ m, k = m + 1 := ⟨k - 1, by omega⟩
      have hd : p ∣ n := Decidable.byContradiction fun h => by have := (vl_zero_iff hp hn).2 h; omega
      obtain ⟨g1, g2, g3⟩ := vl_step hp hn hd
      simp only [impl_valuation.l0]
      rw [if_neg (by omega), if_pos (by rw [tmod_zero_iff]; exact hd), w64 (n := n.tdiv p) (by omega) (by omega), w64 (n := s + 1) (by omega) (by omega), ih k _ _ g1 (by omega) (by omega) (by omega) (by omega) (by omega)]
      congr 1; omega
  intro k hk
  unfold impl_valuation.f vz
  by_cases h0 : n = 0
  · rw [if_pos h0, if_pos h0]
  · have hle := vl_le63 hp h0 (by omega)
    rw [if_neg h0, if_neg h0, go (vl p n) k n 0 h0 hb rfl (by omega) (by omega) (by omega)]
    congr 1; omega

theorem pw_bd (p k : Int) (hp : Pr p) (h : k ≤ 20) : 1 ≤ pw p k ∧ pw p k ≤ 79792266297612001 := by
  have h1 := pw_pos2 hp k
  have h2 := pw_le hp h
  have h3 : pw p 20 ≤ 79792266297612001 := by
    rcases hp with rfl | rfl | rfl | rfl <;> decide +kernel
  omega
theorem pw_bd12 (p k : Int) (hp : Pr p) (h : k ≤ 12) : 1 ≤ pw p k ∧ pw p k ≤ 13841287201 := by
  have h1 := pw_pos2 hp k
  have h2 := pw_le hp h
  have h3 : pw p 12 ≤ 13841287201 := by
    rcases hp with rfl | rfl | rfl | rfl <;> decide +kernel
  omega
theorem pw_bd6 (p k : Int) (hp : Pr p) (h : k ≤ 6) : 1 ≤ pw p k ∧ pw p k ≤ 117649 := by
  have h1 := pw_pos2 hp k
  have h2 := pw_le hp h
  have h3 : pw p 6 ≤ 117649 := by
    rcases hp with rfl | rfl | rfl | rfl <;> decide +kernel
  omega
theorem pw_succ (p k : Int) (h : 0 ≤ k) : pw p (k + 1) = pw p k * p := by
  rw [pw_add h (by omega), pw_one]

theorem l01Power_eq (p n : Int) (hp : Pr p) (h : n ≤ 20) (h0 : -9223372036854775808 ≤ n) : ∀ k, 30 ≤ k → spec_l01Power.f k p n = some (pw p n) := by
  have hp2 := hp.pos
  have go : ∀ (d k : Nat) (n out j : Int), n = d → 0 ≤ j → j + d ≤ 20 → d < k → out = pw p j → spec_l01Power.l0 k p n out = some (pw p (j + d)) := by
    intro d
    induction d with
    | zero =>
      intro k n out j hn hj hs hk ho
      obtain ⟨k, rfl⟩ : ∃ m, k = m + 1 := ⟨k - 1, by omega⟩
      simp only [spec_l01Power.l0]
      rw [if_neg (by omega), ho]; simp
    | succ d ih =>
      intro k n out j hn hj hs hk ho
      obtain ⟨k, rfl⟩ : ∃ m, k = m + 1 := ⟨k - 1, by omega⟩
      simp only [spec_l01Power.l0]
      have hb := pw_bd p (j + 1) hp (by omega)
      have hs1 := pw_succ p j hj
      rw [if_pos (by omega), w64 (n := n - 1) (by omega) (by omega), ho, ← hs1, w64 (by omega) (by omega), ih k (n - 1) _ (j + 1) (by omega) (by omega) (by omega) (by omega) rfl]
      congr 2; omega
  intro k hk
  unfold spec_l01Power.f
  by_cases h1 : n ≤ 0
  · obtain ⟨k, rfl⟩ : ∃ m, k = m + 1 := ⟨k - 1, by omega⟩
    simp only [spec_l01Power.l0]
    rw [if_neg (by omega)]
    simp [pw, show n.toNat = 0 by omega]
  · rw [go n.toNat k n 1 0 (by omega) (by omega) (by omega) (by omega) (by simp [pw])]
    congr 2; omega

theorem power_eq (p n : Int) (hp : Pr p) (h : n ≤ 20) : ∀ k, 30 ≤ k → impl_power.f k p n = some (pw p n) := by
  have hp2 := hp.pos
  have go : ∀ (d k : Nat) (n out j : Int), n = j + d → 0 ≤ j → n ≤ 20 → d < k → out = pw p j → impl_power.l0 k p out n j = some (pw p n) := by
    intro d
    induction d with
    | zero =>
      intro k n out j hn hj hs hk ho
      obtain ⟨k, rfl⟩ : ∃ m, k = m + 1 := ⟨k - 1, by omega⟩
      simp only [impl_power.l0]
      rw [if_neg (by omega), ho]
      congr 2; omega
    | succ d ih =>
      intro k n out j hn hj hs hk ho
      obtain ⟨k, rfl⟩ : ∃ m, k = m + 1 := ⟨k - 1, by omega⟩
      simp only [impl_power.l0]
      have hb := pw_bd p (j + 1) hp (by omega)
      have hs1 := pw_succ p j hj
      rw [if_pos (by omega), w64 (n := j + 1) (by omega) (by omega), ho, ← hs1, w64 (by omega) (by omega), ih k n _ (j + 1) (by omega) (by omega) (by omega) (by omega) rfl]
  intro k hk
  unfold impl_power.f
  by_cases h1 : n ≤ 0
  · obtain ⟨k, rfl⟩ : ∃ m, k = m + 1 := ⟨k - 1, by omega⟩
    simp only [impl_power.l0]
    rw [if_neg (by omega)]
    simp [pw, show n.toNat = 0 by omega]
  · rw [go n.toNat k n 1 0 (by omega) (by omega) (by omega) (by omega) (by simp [pw])]

theorem mx_neg (a : Int) (h : a.natAbs ≤ 9223372036854775807) : mx a (wrap64 (-a)) = (a.natAbs : Int) := by
  rw [w64 (by omega) (by omega)]; unfold mx; split <;> omega
theorem gcd_tmod (a b : Int) : Int.gcd b (a.tmod b) = Int.gcd a b := by
  have h := Int.gcd_add_mul_left_right b (a.tmod b) (a.tdiv b)
  rw [Int.tmod_add_mul_tdiv] at h
  rw [Int.gcd_comm a b]; exact h.symm

theorem isE_bd {n d : Int} (h : isE n d) : -1000000 ≤ n ∧ n ≤ 1000000 ∧ 0 ≤ d ∧ d ≤ 1000000 := by unfold isE at h; omega
theorem mul_bd {a b : Int} (h1 : -1000000 ≤ a) (h2 : a ≤ 1000000) (h3 : -1000000 ≤ b) (h4 : b ≤ 1000000) : -1000000000000 ≤ a * b ∧ a * b ≤ 1000000000000 := by
  have h : (a * b).natAbs ≤ 1000000 * 1000000 := by rw [Int.natAbs_mul]; exact Nat.mul_le_mul (by omega) (by omega)
  omega
def crs (n1 d1 n2 d2 : Int) : Int := n1 * d2 - n2 * d1
theorem crs_bd {n1 d1 n2 d2 : Int} (h1 : isE n1 d1) (h2 : isE n2 d2) : (crs n1 d1 n2 d2).natAbs ≤ 2000000000000 := by
  have a := isE_bd h1; have b := isE_bd h2
  have c := mul_bd (a := n1) (b := d2) (by omega) (by omega) (by omega) (by omega)
  have d := mul_bd (a := n2) (b := d1) (by omega) (by omega) (by omega) (by omega)
  unfold crs; omega
/-- two ends are the same if their cross is 0 -/
theorem crs_zero {n1 d1 n2 d2 : Int} (h1 : isE n1 d1) (h2 : isE n2 d2) (h : crs n1 d1 n2 d2 = 0) : n1 = n2 ∧ d1 = d2 := by
  unfold crs at h
  rcases h1 with ⟨a1, a2⟩ | ⟨a1, a2, a3, a4, a5⟩
  · rcases h2 with ⟨b1, b2⟩ | ⟨b1, b2, b3, b4, b5⟩
    · omega
    · subst a1 a2; simp at h; omega
  · rcases h2 with ⟨b1, b2⟩ | ⟨b1, b2, b3, b4, b5⟩
    · subst b1 b2; simp at h; omega
    · have e : n1 * d2 = n2 * d1 := by omega
      have e1 : d1 ∣ d2 := PM.dvd_of_dvd_mul_right_of_gcd_one (a := d1) (b := n1) (c := d2) ⟨n2, by rw [e, Int.mul_comm]⟩ (by rw [Int.gcd_comm]; exact a5)
      have e2 : d2 ∣ d1 := PM.dvd_of_dvd_mul_right_of_gcd_one (a := d2) (b := n2) (c := d1) ⟨n1, by rw [← e, Int.mul_comm]⟩ (by rw [Int.gcd_comm]; exact b5)
      have e3 : d1 = d2 := Int.dvd_antisymm (by omega) (by omega) e1 e2
      subst e3
      exact ⟨Int.eq_of_mul_eq_mul_right (by omega) e, rfl⟩

def gapz (p n1 d1 n2 d2 : Int) : Int := (vl p (crs n1 d1 n2 d2) : Int) - vl p d1 - vl p d2

theorem okSplit (p : Int) (lv top dn : Int) : PM.Ok p ⟨lv, top, dn⟩ ↔ (-6 ≤ lv ∧ lv ≤ 6 ∧ 0 ≤ dn ∧ dn ≤ 6) ∧ ((lv + dn ≤ 0 ∧ top = 0 ∧ dn = 0) ∨ (0 < lv + dn ∧ 0 ≤ top ∧ top < pw p (lv + dn) ∧ (dn = 0 ∨ ¬ p ∣ top))) := by
  unfold PM.Ok; simp only; constructor
  · intro ⟨a, b, c, d, e⟩; exact ⟨⟨a, b, c, d⟩, e⟩
  · intro ⟨⟨a, b, c, d⟩, e⟩; exact ⟨a, b, c, d, e⟩
theorem l01Is_eq (p lv top dn : Int) : ∀ k, 32 ≤ k → spec_l01Is.f k p lv top dn = some (decide (Pr p ∧ PM.Ok p ⟨lv, top, dn⟩)) := by
  intro k hk
  obtain ⟨k, rfl⟩ : ∃ m, k = m + 1 := ⟨k - 1, by omega⟩
  have jt : spec_l01Is.j0 (k + 1) p true lv top dn = some false := by simp [spec_l01Is.j0]
  unfold spec_l01Is.f
  rcases prime_cases p with ⟨h, hp⟩ | ⟨h, hp⟩
  · have hp : Pr p := hp
    rw [h, in_eq, in_eq]
    simp only [Option.bind_some, if_true]
    by_cases h1 : -6 ≤ lv ∧ lv ≤ 6
    · rw [decide_eq_true h1, if_pos rfl]
      by_cases h2 : 0 ≤ dn ∧ dn ≤ 6
      · rw [decide_eq_true h2]
        simp only [Bool.not_true, spec_l01Is.j0]
        rw [if_neg (by simp), w64 (by omega) (by omega)]
        by_cases h3 : lv + dn ≤ 0
        · rw [if_pos h3]
          by_cases h4 : top = 0
          · rw [if_pos h4]
            congr 1; rw [Bool.eq_iff_iff]
            simp only [decide_eq_true_eq, okSplit, beq_iff_eq]
            constructor
            · intro h5; exact ⟨hp, ⟨by omega, Or.inl ⟨h3, h4, h5⟩⟩⟩
            · intro ⟨_, _, h5⟩; omega
          · rw [if_neg h4, decide_eq_false]
            rw [okSplit]; intro ⟨_, _, h5⟩; omega
        · rw [if_neg h3, l01Power_eq p _ hp (by omega) (by omega) k (by omega)]
          have hb := pw_bd12 p (lv + dn) hp (by omega)
          simp only [Option.bind_some]
          rw [in_eq, w64 (by omega) (by omega)]
          simp only [Option.bind_some]
          by_cases h4 : 0 ≤ top ∧ top ≤ pw p (lv + dn) - 1
          · rw [decide_eq_true h4, if_pos rfl]
            by_cases h5 : dn = 0
            · rw [if_pos h5, decide_eq_true]
              rw [okSplit]; exact ⟨hp, by omega, Or.inr ⟨by omega, by omega, by omega, Or.inl h5⟩⟩
            · have hp2 := hp.pos
              rw [if_neg h5, if_neg (by omega)]
              congr 1; rw [Bool.eq_iff_iff]
              simp only [decide_eq_true_eq, okSplit, bne_iff_ne, ne_eq, tmod_zero_iff]
              constructor
              · intro h6; exact ⟨hp, by omega, Or.inr ⟨by omega, by omega, by omega, Or.inr h6⟩⟩
              · intro ⟨_, _, h6⟩ h7
                rcases h6 with h6 | ⟨_, _, _, h6⟩
                · omega
                · rcases h6 with h6 | h6
                  · exact h5 h6
                  · exact h6 h7
          · rw [decide_eq_false h4, if_neg (by simp), decide_eq_false]
            rw [okSplit]; intro ⟨_, _, h5⟩; omega
      · rw [decide_eq_false h2, Bool.not_false, jt, decide_eq_false]
        rw [okSplit]; intro ⟨_, h5, _⟩; omega
    · rw [decide_eq_false h1, if_neg (by simp), jt, decide_eq_false]
      rw [okSplit]; intro ⟨_, h5, _⟩; omega
  · rw [h]
    simp only [Option.bind_some]
    rw [if_neg (by simp), jt, decide_eq_false]
    intro ⟨h1, _⟩; exact hp h1

def bOk (p : Int) (x : S34) : Bool := decide (PM.Ok p ⟨x.f0, x.f1, x.f2⟩)
theorem rdB (l : List S34) (i : Nat) (h : i < l.length) : rd_T34 l (i : Int) = l[i]'h := by
  unfold rd_T34; simp [List.getD_eq_getElem?_getD, h]

theorem l01Code_eq (p : Int) (l : List S34) (hl : l.length ≤ 1000) : ∃ K, ∀ k, K ≤ k → spec_l01Code.f k p l = some (if Pr p ∧ l.all (bOk p) = true then 0 else 1) := by
  rcases prime_cases p with ⟨h, hp⟩ | ⟨h, hp⟩
  · have hp : Pr p := hp
    have go : ∀ (d i k : Nat), i + d = l.length → d + 34 ≤ k → spec_l01Code.l0 k p l i = some (if (l.drop i).all (bOk p) = true then 0 else 1) := by
      intro d
      induction d with
      | zero =>
        intro i k hi hk
        obtain ⟨k, rfl⟩ : ∃ m, k = m + 1 := ⟨k - 1, by omega⟩
        simp only [spec_l01Code.l0]
        rw [if_neg (by omega), List.drop_eq_nil_of_le (by omega)]; rfl
      | succ d ih =>
        intro i k hi hk
        obtain ⟨k, rfl⟩ : ∃ m, k = m + 1 := ⟨k - 1, by omega⟩
        simp only [spec_l01Code.l0]
        rw [if_pos (by omega), if_pos (by omega), rdB l i (by omega), l01Is_eq _ _ _ _ k (by omega), all_drop (bOk p) l i (by omega), w64 (by omega) (by omega), show ((i : Int) + 1) = ((i + 1 : Nat) : Int) from by omega, ih (i + 1) k (by omega) (by omega)]
        simp only [Option.bind_some]
        show _ = some (if (decide (PM.Ok _ _) && _) = true then _ else _)
        by_cases h : PM.Ok p ⟨(l[i]'(by omega)).f0, (l[i]'(by omega)).f1, (l[i]'(by omega)).f2⟩
        · rw [decide_eq_true h, decide_eq_true ⟨hp, h⟩]; simp
        · rw [decide_eq_false h, decide_eq_false (fun g => h g.2)]; simp
    refine ⟨l.length + 34, fun k hk => ?_⟩
    unfold spec_l01Code.f
    rw [h]
    simp only [Option.bind_some, if_true]
    have := go l.length 0 k (by omega) (by omega)
    rw [show ((0 : Nat) : Int) = 0 from rfl, List.drop_zero] at this
    rw [this]
    by_cases g : l.all (bOk p) = true
    · rw [if_pos g, if_pos ⟨hp, g⟩]
    · rw [if_neg g, if_neg (fun z => g z.2)]
  · refine ⟨0, fun k _ => ?_⟩
    unfold spec_l01Code.f
    rw [h]
    simp only [Option.bind_some]
    rw [if_neg (by simp), if_neg (fun z => hp z.1)]

theorem mul_bd2 {a b : Int} (A B : Int) (h1 : -A ≤ a) (h2 : a ≤ A) (h3 : -B ≤ b) (h4 : b ≤ B) : -(A * B) ≤ a * b ∧ a * b ≤ A * B := by
  have hA : 0 ≤ A := by omega
  have hB : 0 ≤ B := by omega
  have h : (a * b).natAbs ≤ A.natAbs * B.natAbs := by
    rw [Int.natAbs_mul]; exact Nat.mul_le_mul (by omega) (by omega)
  rw [← Int.natAbs_mul] at h
  have : 0 ≤ A * B := Int.mul_nonneg hA hB
  omega
theorem mn_min (a b : Int) : mn a b = min a b := by unfold mn; split <;> omega
theorem mx_max (a b : Int) : mx a b = max a b := by unfold mx; split <;> omega
theorem okb {p lv top dn : Int} (h : PM.Ok p ⟨lv, top, dn⟩) : -6 ≤ lv ∧ lv ≤ 6 ∧ 0 ≤ dn ∧ dn ≤ 6 ∧ 0 ≤ top := by
  unfold PM.Ok at h; simp only at h; omega
theorem ok_top {p lv top dn : Int} (hp : Pr p) (h : PM.Ok p ⟨lv, top, dn⟩) : 0 ≤ top ∧ top ≤ 13841287201 := by
  have hb := okb h
  have := pw_bd12 p (lv + dn) hp (by omega)
  unfold PM.Ok at h; simp only at h; omega
theorem mark_bd12 {p lv top dn : Int} (hp : Pr p) (h : PM.Ok p ⟨lv, top, dn⟩) : 0 ≤ PM.mark p ⟨lv, top, dn⟩ ∧ PM.mark p ⟨lv, top, dn⟩ ≤ 13841287201 := by
  have hb := okb h
  have := PM.mark_bd hp h
  have := pw_bd12 p (lv + 6) hp (by omega)
  simp only at *; omega

theorem mark_eq {p lv top dn : Int} (hp : Pr p) (h : PM.Ok p ⟨lv, top, dn⟩) : ∀ k, 30 ≤ k → impl_mark.f k p lv top dn = some (PM.mark p ⟨lv, top, dn⟩) := by
  intro k hk
  have hb := okb h
  have hm := mark_bd12 hp h
  unfold impl_mark.f
  rw [w64 (n := 6 - dn) (by omega) (by omega), power_eq p _ hp (by omega) k hk]
  simp only [Option.bind_some]
  unfold PM.mark at hm ⊢
  simp only at hm ⊢
  rw [w64 (by omega) (by omega)]

theorem power_eq2 (p n : Int) (hp : Pr p) (h : n ≤ 62) (h1 : pw p n ≤ 4611686018427387904) (h0 : -9223372036854775808 ≤ n) : ∀ k, 70 ≤ k → impl_power.f k p n = some (pw p n) := by
  have hp2 := hp.pos
  have hle : ∀ j : Int, j ≤ n → 1 ≤ pw p j ∧ pw p j ≤ 4611686018427387904 := fun j hj => by
    have := pw_le hp hj; have := pw_pos2 hp j; omega
  have go : ∀ (d k : Nat) (out j : Int), n = j + d → 0 ≤ j → d < k → out = pw p j → impl_power.l0 k p out n j = some (pw p n) := by
    intro d
    induction d with
    | zero =>
      intro k out j hn hj hk ho
      obtain ⟨k, rfl⟩ : ∃ m, k = m + 1 := ⟨k - 1, by omega⟩
      simp only [impl_power.l0]
      rw [if_neg (by omega), ho]
      congr 2; omega
    | succ d ih =>
      intro k out j hn hj hk ho
      obtain ⟨k, rfl⟩ : ∃ m, k = m + 1 := ⟨k - 1, by omega⟩
      simp only [impl_power.l0]
      have hb := hle (j + 1) (by omega)
      have hs1 := pw_succ p j hj
      rw [if_pos (by omega), w64 (n := j + 1) (by omega) (by omega), ho, ← hs1, w64 (by omega) (by omega), ih k _ (j + 1) (by omega) (by omega) (by omega) rfl]
  intro k hk
  unfold impl_power.f
  by_cases h1 : n ≤ 0
  · obtain ⟨k, rfl⟩ : ∃ m, k = m + 1 := ⟨k - 1, by omega⟩
    simp only [impl_power.l0]
    rw [if_neg (by omega)]
    simp [pw, show n.toNat = 0 by omega]
  · rw [go n.toNat k 1 0 (by omega) (by omega) (by omega) (by simp [pw])]

theorem l01Power_eq2 (p n : Int) (hp : Pr p) (h : n ≤ 62) (h1 : pw p n ≤ 4611686018427387904) (h0 : -9223372036854775808 ≤ n) : ∀ k, 70 ≤ k → spec_l01Power.f k p n = some (pw p n) := by
  have hp2 := hp.pos
  have hle : ∀ j : Int, j ≤ n → 1 ≤ pw p j ∧ pw p j ≤ 4611686018427387904 := fun j hj => by
    have := pw_le hp hj; have := pw_pos2 hp j; omega
  have go : ∀ (d k : Nat) (m out j : Int), m = d → n = j + d → 0 ≤ j → d < k → out = pw p j → spec_l01Power.l0 k p m out = some (pw p n) := by
    intro d
    induction d with
    | zero =>
      intro k m out j hm hn hj hk ho
      obtain ⟨k, rfl⟩ : ∃ m, k = m + 1 := ⟨k - 1, by omega⟩
      simp only [spec_l01Power.l0]
      rw [if_neg (by omega), ho]
      congr 2; omega
    | succ d ih =>
      intro k m out j hm hn hj hk ho
      obtain ⟨k, rfl⟩ : ∃ m, k = m + 1 := ⟨k - 1, by omega⟩
      simp only [spec_l01Power.l0]
      have hb := hle (j + 1) (by omega)
      have hs1 := pw_succ p j hj
      rw [if_pos (by omega), w64 (n := m - 1) (by omega) (by omega), ho, ← hs1, w64 (by omega) (by omega), ih k (m - 1) _ (j + 1) (by omega) (by omega) (by omega) (by omega) rfl]
  intro k hk
  unfold spec_l01Power.f
  by_cases h1 : n ≤ 0
  · obtain ⟨k, rfl⟩ : ∃ m, k = m + 1 := ⟨k - 1, by omega⟩
    simp only [spec_l01Power.l0]
    rw [if_neg (by omega)]
    simp [pw, show n.toNat = 0 by omega]
  · rw [go n.toNat k n 1 0 (by omega) (by omega) (by omega) (by omega) (by simp [pw])]

theorem tmod_fix (a m : Int) (hm : 0 < m) : (a.tmod m + m).tmod m = a % m ∧ -m < a.tmod m ∧ a.tmod m < m := by
  have h1 := Int.tmod_lt_of_pos a hm
  have h2 := Int.lt_tmod_of_pos a hm
  have h3 := Int.mul_tdiv_add_tmod a m
  refine ⟨?_, h2, h1⟩
  rw [Int.tmod_eq_emod_of_nonneg (by omega)]
  rw [show a.tmod m + m = a + m * (1 - a.tdiv m) by rw [Int.mul_sub]; omega, Int.add_mul_emod_self_left]
theorem em_mul (a b m : Int) : (a % m * b) % m = a * b % m := by rw [Int.mul_emod, Int.emod_emod, ← Int.mul_emod]
theorem emb (a m : Int) (hm : 0 < m) : 0 ≤ a % m ∧ a % m < m := ⟨Int.emod_nonneg _ (by omega), Int.emod_lt_of_pos _ hm⟩

theorem mod_eq (a m : Int) (hm : 0 < m) (h2 : m ≤ 4611686018427387904) : impl_mod.f a m = some (a % m) := by
  obtain ⟨e, h3, h4⟩ := tmod_fix a m hm
  unfold impl_mod.f
  rw [if_neg (by omega), w64 (by omega) (by omega), e]

theorem l01MulMod_eq (a b m : Int) (hm : 0 < m) (h2 : m ≤ 13841287201) : spec_l01MulMod.f a b m = some (a * b % m) := by
  obtain ⟨e1, h3, h4⟩ := tmod_fix a m hm
  obtain ⟨e2, h5, h6⟩ := tmod_fix b m hm
  obtain ⟨ha0, ha1⟩ := emb a m hm
  obtain ⟨hb0, hb1⟩ := emb b m hm
  unfold spec_l01MulMod.f
  rw [if_neg (by omega), w64 (n := a.tmod m + m) (by omega) (by omega), w64 (n := b.tmod m + m) (by omega) (by omega), e1, e2]
  have em : a * b % m = (a % m) * (b % m) % m := Int.mul_emod a b m
  rw [em]
  generalize a % m = x at *
  generalize b % m = y at *
  rw [Int.tdiv_eq_ediv_of_nonneg hb0, Int.tmod_eq_emod_of_nonneg hb0]
  have m1 := mul_bd2 (a := x) (b := y / 1000000) 13841287201 13842 (by omega) (by omega) (by omega) (by omega)
  have m2 := mul_bd2 (a := x) (b := y % 1000000) 13841287201 1000000 (by omega) (by omega) (by omega) (by omega)
  have n1 : 0 ≤ x * (y / 1000000) := Int.mul_nonneg ha0 (by omega)
  have n2 : 0 ≤ x * (y % 1000000) := Int.mul_nonneg ha0 (by omega)
  rw [w64 (n := y / 1000000) (by omega) (by omega), w64 (n := x * (y / 1000000)) (by omega) (by omega), Int.tmod_eq_emod_of_nonneg n1, w64 (n := x * (y % 1000000)) (by omega) (by omega), Int.tmod_eq_emod_of_nonneg n2]
  obtain ⟨c0, c1⟩ := emb (x * (y / 1000000)) m hm
  obtain ⟨d0, d1⟩ := emb (x * (y % 1000000)) m hm
  rw [w64 (n := x * (y / 1000000) % m * 1000000) (by omega) (by omega), Int.tmod_eq_emod_of_nonneg (a := x * (y / 1000000) % m * 1000000) (by omega)]
  obtain ⟨f0, f1⟩ := emb (x * (y / 1000000) % m * 1000000) m hm
  rw [w64 (by omega) (by omega), Int.tmod_eq_emod_of_nonneg (a := x * (y / 1000000) % m * 1000000 % m + x * (y % 1000000) % m) (by omega)]
  rw [em_mul, ← Int.add_emod]
  congr 2
  have : y = y / 1000000 * 1000000 + y % 1000000 := by omega
  conv => rhs; rw [this]
  rw [Int.mul_add, Int.mul_assoc]

theorem l01InvMod_eq (n m : Int) (hm : 0 < m) (h2 : m ≤ 1099511627776) : ∀ k, m.toNat + 4 ≤ k → spec_l01InvMod.f k n m = some (inv n m) := by
  have go : ∀ (j : Nat) (n a b x y : Int) (k : Nat), Inv n m a b x y → b < j → a ≤ m → b ≤ m → x.natAbs ≤ m → y.natAbs ≤ m → j < k → spec_l01InvMod.l0 k m a b x y = some (invF j a b x y % m) := by
    intro j
    induction j with
    | zero => intro n a b x y k h hb; have := h.b0; omega
    | succ j ih =>
      intro n a b x y k h hb ham hbm hx hy hk
      obtain ⟨k, rfl⟩ : ∃ i, k = i + 1 := ⟨k - 1, by omega⟩
      have a0 := h.a0; have b0 := h.b0
      simp only [spec_l01InvMod.l0, invF]
      by_cases z : b = 0
      · rw [if_pos z, if_pos z]
        obtain ⟨e, h3, h4⟩ := tmod_fix x m hm
        rw [if_neg (by omega), w64 (by omega) (by omega), e]
      · rw [if_neg z, if_neg z]
        have hb1 : 0 < b := by omega
        obtain ⟨i1, i2, i3, i4⟩ := h.bd
        obtain ⟨i5, i6⟩ := i4 hb1
        have hs := h.step z
        obtain ⟨j1, j2, j3, j4⟩ := hs.bd
        have hy' := j2 hb1
        have hq : 0 ≤ a / b := Int.ediv_nonneg a0 b0
        have hq2 := Int.ediv_le_self b a0
        have hr : a - a / b * b = a % b := by rw [Int.emod_def, Int.mul_comm b]
        obtain ⟨r0, r1⟩ := emb a b hb1
        have hay : (a / b * y).natAbs ≤ m := by
          rw [Int.natAbs_mul]
          have : ((a / b).natAbs * y.natAbs : Nat) = a / b * (y.natAbs : Int) := by
            rw [Int.natCast_mul, Int.natAbs_of_nonneg hq]
          omega
        rw [Int.tdiv_eq_ediv_of_nonneg a0, w64 (n := a / b) (by omega) (by omega), w64 (n := a / b * b) (by omega) (by omega), w64 (n := a - a / b * b) (by omega) (by omega), w64 (n := a / b * y) (by omega) (by omega), w64 (n := x - a / b * y) (by omega) (by omega)]
        exact ih n b (a - a / b * b) y (x - a / b * y) k hs (by omega) hbm (by omega) hy (by omega) (by omega)
  intro k hk
  obtain ⟨h0, h1⟩ := emb n m hm
  unfold spec_l01InvMod.f inv
  obtain ⟨e, h3, h4⟩ := tmod_fix n m hm
  rw [if_neg (by omega), w64 (by omega) (by omega), e]
  exact go (m.toNat + 2) (n % m) (n % m) m 1 0 k (Inv.start h0 (by omega)) (by omega) (by omega) (by omega) (by omega) (by omega) (by omega)

theorem vl20 {p n : Int} (hp : Pr p) (h : n ≠ 0) (hb : n.natAbs ≤ 1000000) : vl p n ≤ 19 := by
  have := vl_le hp h (k := 20) (by
    have : (2 : Nat) ^ 20 = 1048576 := by decide
    omega)
  omega
theorem pwvl {p n : Int} (hp : Pr p) (h : n ≠ 0) : 0 < pw p (vl p n) ∧ pw p (vl p n) ≤ (n.natAbs : Int) := by
  refine ⟨pw_pos2 hp _, ?_⟩
  have := Int.le_of_dvd (by omega) (Int.dvd_natAbs.mpr (pw_vl_dvd hp h))
  exact this
theorem un_div {p n : Int} (hp : Pr p) (h : n ≠ 0) : n.tdiv (pw p (vl p n)) = un p n := by
  unfold un; rw [vz_of_ne h, Int.tdiv_eq_ediv_of_dvd (pw_vl_dvd hp h)]
theorem un_bd {p n : Int} (hp : Pr p) (h : n ≠ 0) : (un p n).natAbs ≤ n.natAbs := by
  obtain ⟨e, _⟩ := un_spec hp h
  have h1 := pwvl hp h
  have : n.natAbs = (pw p (vl p n)).natAbs * (un p n).natAbs := by rw [← Int.natAbs_mul, ← e]
  rw [this]
  exact Nat.le_mul_of_pos_left _ (by omega)

def brV (p lv x n d : Int) : Int := if d = 0 ∨ PM.turn p lv x n d < lv then 0 else 1 + (PM.dv p x n d / pw p (lv + 6 + vl p d)) * inv (un p d) p % p
theorem un_mul_pw {p n k : Int} (hp : Pr p) (hn : n ≠ 0) (hk : 0 ≤ k) : un p (pw p k * n) = un p n ∧ (vl p (pw p k * n) : Int) = k + vl p n := by
  have hq := pw_pos2 hp k
  have hv : (vl p (pw p k * n) : Int) = k + vl p n := by
    rw [vl_mul hp (by omega) hn]; have := PM.vl_pw hp k hk; omega
  refine ⟨?_, hv⟩
  unfold un
  rw [vz_of_ne (Int.mul_ne_zero (by omega) hn), hv, vz_of_ne hn, pw_add hk (by omega), Int.mul_ediv_mul_of_pos _ _ hq]
theorem turn_held {p lv x n d : Int} (hd : d ≠ 0) : ¬ PM.turn p lv x n d < lv ↔ (PM.dv p x n d = 0 ∨ lv + 6 + (vl p d : Int) ≤ vl p (PM.dv p x n d)) := by
  unfold PM.turn
  by_cases z : PM.dv p x n d = 0
  · rw [if_pos z]; omega
  · rw [if_neg z]; omega
theorem dv_bd {p x n d : Int} (hp : Pr p) (hx : 0 ≤ x ∧ x ≤ 13841287201) (he : isE n d) : (PM.dv p x n d).natAbs ≤ 15000000000000000 := by
  have hE := isE_bd he
  have h6 := pw_bd6 p 6 hp (by omega)
  have m1 := mul_bd2 (a := n) (b := pw p 6) 1000000 117649 (by omega) (by omega) (by omega) (by omega)
  have m2 := mul_bd2 (a := x) (b := d) 13841287201 1000000 (by omega) (by omega) (by omega) (by omega)
  unfold PM.dv; omega
theorem pwq {p lv d : Int} (hp : Pr p) (hd : d ≠ 0) (hb : d.natAbs ≤ 1000000) (hl : -6 ≤ lv ∧ lv ≤ 6) : 1 ≤ pw p (lv + 6 + vl p d) ∧ pw p (lv + 6 + vl p d) ≤ 13841287201 * 1000000 := by
  have h1 := pwvl hp hd
  have h2 := pw_bd12 p (lv + 6) hp (by omega)
  rw [pw_add (by omega) (by omega)]
  have h3 := mul_bd2 (a := pw p (lv + 6)) (b := pw p (vl p d)) 13841287201 1000000 (by omega) (by omega) (by omega) (by omega)
  have h4 := Int.mul_pos (show 0 < pw p (lv + 6) by omega) h1.1
  omega
theorem held_dvd {p lv x n d : Int} (hp : Pr p) (hd : d ≠ 0) (hl : -6 ≤ lv) (h : ¬ PM.turn p lv x n d < lv) : pw p (lv + 6 + vl p d) ∣ PM.dv p x n d := by
  rcases (turn_held hd).mp h with z | z
  · rw [z]; exact Int.dvd_zero _
  · by_cases z0 : PM.dv p x n d = 0
    · rw [z0]; exact Int.dvd_zero _
    · exact (le_vl_iff' hp z0 (by omega)).mp z

def enc : Option PM.Ball → Int × Int × Int × Bool
  | none => (0, 0, 0, false)
  | some b => (b.lv, b.top, b.dn, true)
def encC (c : Int) : Option PM.Ball → Int × Int × Int × Int
  | none => (0, 0, 0, c)
  | some b => (b.lv, b.top, b.dn, 0)

theorem isLevel_eq' (n : Int) : impl_isLevel.f n = some (decide (PM.inLv n)) := by
  unfold impl_isLevel.f PM.inLv
  congr 1
  by_cases h1 : n ≥ -6 <;> by_cases h2 : n ≤ 6 <;> simp [h1, h2] <;> omega
theorem ofMark_eq {p lv x : Int} (hp : Pr p) : ∀ k, 70 ≤ k → impl_ofMark.f k p lv x = some (enc (if PM.inLv lv then some (PM.mk p lv (x % pw p (lv + 6))) else none)) := by
  intro k hk
  unfold impl_ofMark.f
  rw [isLevel_eq']
  simp only [Option.bind_some]
  by_cases hl : PM.inLv lv
  · have hl' := hl
    unfold PM.inLv at hl'
    have hb := pw_bd12 p (lv + 6) hp (by omega)
    obtain ⟨r0, r1⟩ := emb x (pw p (lv + 6)) (by omega)
    rw [decide_eq_true hl, if_pos rfl, if_pos hl, w64 (n := lv + 6) (by omega) (by omega), power_eq p _ hp (by omega) k (by omega)]
    simp only [Option.bind_some]
    rw [mod_eq x _ (by omega) (by omega)]
    simp only [Option.bind_some]
    generalize x % pw p (lv + 6) = y at *
    rw [valuation_eq p y hp (by omega) k hk]
    simp only [Option.bind_some]
    have hz : 0 ≤ vz p y ∧ vz p y ≤ 1000 := by
      refine ⟨PM.vz_nonneg _ _, ?_⟩
      unfold vz
      by_cases y0 : y = 0
      · rw [if_pos y0]; omega
      · rw [if_neg y0]; have := vl_le63 hp y0 (by omega); omega
    simp only [mx_max]
    rw [w64 (n := 6 - vz p y) (by omega) (by omega), w64 (n := 6 - max (6 - vz p y) 0) (by omega) (by omega), power_eq p _ hp (by omega) k (by omega)]
    simp only [Option.bind_some]
    have hq := pw_bd6 p (6 - max (6 - vz p y) 0) hp (by omega)
    have hd := Int.ediv_le_self (pw p (6 - max (6 - vz p y) 0)) r0
    have hd0 := Int.ediv_nonneg r0 (show 0 ≤ pw p (6 - max (6 - vz p y) 0) by omega)
    rw [if_neg (by omega), Int.tdiv_eq_ediv_of_nonneg r0, w64 (by omega) (by omega)]
    simp only [enc, PM.mk]
  · rw [decide_eq_false hl, if_neg (by simp), if_neg hl]; rfl

theorem l01Of_eq {p n d lv : Int} (hp : Pr p) (hd : d ≠ 0) (hn : n.natAbs ≤ 4611686018427387904) (hdb : d.natAbs ≤ 4611686018427387904) : ∀ k, 13841287300 ≤ k → spec_l01Of.f k p n d lv = some (enc (PM.lOf p n d lv)) := by
  intro k hk
  unfold spec_l01Of.f PM.lOf
  rw [in_eq]
  simp only [Option.bind_some]
  by_cases hl : PM.inLv lv
  · have hl' := hl
    unfold PM.inLv at hl'
    rw [decide_eq_true hl', if_pos rfl, if_neg (show ¬ ¬ PM.inLv lv from fun z => z hl)]
    by_cases z : n = 0
    · rw [if_pos z, if_pos z]; rfl
    · have v1 := vl_le63 hp z (by omega)
      have v2 := vl_le63 hp hd (by omega)
      have v3 := vl_le hp z (k := 63) (by
        have : (2 : Nat) ^ 63 = 9223372036854775808 := by decide
        omega)
      have v4 := vl_le hp hd (k := 63) (by
        have : (2 : Nat) ^ 63 = 9223372036854775808 := by decide
        omega)
      rw [if_neg z, if_neg z, val_eq p n hp z (by omega) k (by omega), val_eq p d hp hd (by omega) k (by omega), vz_of_ne z, vz_of_ne hd]
      simp only [Option.bind_some, mx_max]
      rw [w64 (n := (vl p n : Int) - vl p d) (by omega) (by omega), w64 (n := (vl p d : Int) - vl p n) (by omega) (by omega)]
      by_cases c : lv ≤ (vl p n : Int) - vl p d
      · rw [if_pos c, if_pos c]; rfl
      · rw [if_neg c, if_neg c]
        by_cases e : max ((vl p d : Int) - vl p n) 0 > 6
        · rw [if_pos e, if_pos e]; rfl
        · rw [if_neg e, if_neg (show ¬ 6 < max ((vl p d : Int) - vl p n) 0 from e)]
          have hb := pw_bd12 p (lv + max ((vl p d : Int) - vl p n) 0) hp (by omega)
          have p1 := pwvl hp z
          have p2 := pwvl hp hd
          have u1 := un_bd hp z
          have u2 := un_bd hp hd
          rw [w64 (n := lv + max ((vl p d : Int) - vl p n) 0) (by omega) (by omega), l01Power_eq p _ hp (by omega) (by omega) k (by omega), l01Power_eq2 p (vl p n) hp (by omega) (by omega) (by omega) k (by omega), l01Power_eq2 p (vl p d) hp (by omega) (by omega) (by omega) k (by omega)]
          simp only [Option.bind_some]
          rw [if_neg (by omega), if_neg (by omega), un_div hp z, un_div hp hd, w64 (n := un p n) (by omega) (by omega), w64 (n := un p d) (by omega) (by omega), l01InvMod_eq _ _ (by omega) (by omega) k (by omega)]
          simp only [Option.bind_some]
          rw [l01MulMod_eq _ _ _ (by omega) (by omega), l01Power_eq p (max ((vl p n : Int) - vl p d) 0) hp (by omega) (by omega) k (by omega)]
          simp only [Option.bind_some]
          rw [l01MulMod_eq _ _ _ (by omega) (by omega)]
          rfl
  · rw [decide_eq_false (show ¬ (-6 ≤ lv ∧ lv ≤ 6) from hl), if_neg (by simp), if_pos hl]; rfl
theorem lOf_eq_ballAt {p n d lv : Int} (hp : Pr p) (hd : d ≠ 0) : PM.lOf p n d lv = PM.ballAt p n d lv := (PM.ballAt_eq_lOf hp hd).symm

theorem up_eq {p lv top dn : Int} (hp : Pr p) (h : PM.Ok p ⟨lv, top, dn⟩) : ∀ k, 70 ≤ k → impl_parent.f k p lv top dn = some (enc (PM.about p (lv - 1) (PM.mark p ⟨lv, top, dn⟩))) := by
  intro k hk
  have hb := okb h
  unfold impl_parent.f
  rw [mark_eq hp h k (by omega)]
  simp only [Option.bind_some]
  rw [w64 (n := lv - 1) (by omega) (by omega), ofMark_eq hp k hk]
  rfl

theorem down_eq {p lv top dn a : Int} (hp : Pr p) (h : PM.Ok p ⟨lv, top, dn⟩) (ha : 0 ≤ a ∧ a ≤ 7) : ∀ k, 70 ≤ k → impl_child.f k p lv top dn a = some (enc (PM.about p (lv + 1) (PM.mark p ⟨lv, top, dn⟩ + a * pw p (lv + 6)))) := by
  intro k hk
  have hb := okb h
  have hm := mark_bd12 hp h
  have hq := pw_bd12 p (lv + 6) hp (by omega)
  have m1 := mul_bd2 (a := a) (b := pw p (lv + 6)) 7 13841287201 (by omega) (by omega) (by omega) (by omega)
  unfold impl_child.f
  rw [mark_eq hp h k (by omega), w64 (n := lv + 6) (by omega) (by omega), power_eq p _ hp (by omega) k (by omega)]
  simp only [Option.bind_some]
  rw [w64 (n := lv + 1) (by omega) (by omega), w64 (n := a * pw p (lv + 6)) (by omega) (by omega), w64 (by omega) (by omega), ofMark_eq hp k hk]
  rfl

theorem specUp_eq {p lv top dn : Int} (hp : Pr p) (h : PM.Ok p ⟨lv, top, dn⟩) : ∀ k, 13841287300 ≤ k → spec_l01Parent.f k p lv top dn = some (enc (PM.about p (lv - 1) (PM.mark p ⟨lv, top, dn⟩))) := by
  intro k hk
  have hb := okb h
  have ht := ok_top hp h
  have h6 := pw_bd6 p dn hp (by omega)
  unfold spec_l01Parent.f
  rw [l01Power_eq p dn hp (by omega) (by omega) k (by omega)]
  simp only [Option.bind_some]
  rw [w64 (n := lv - 1) (by omega) (by omega), l01Of_eq hp (by omega) (by omega) (by omega) k hk, lOf_eq_ballAt hp (by omega), show PM.ballAt p top (pw p dn) (lv - 1) = _ from PM.parent_is hp h (lv - 1)]
  rfl

theorem about_out {p l x : Int} (h : ¬ PM.inLv l) : PM.about p l x = none := by unfold PM.about; rw [if_neg h]
theorem specDown_eq {p lv top dn a : Int} (hp : Pr p) (h : PM.Ok p ⟨lv, top, dn⟩) (ha : 0 ≤ a ∧ a ≤ 7) : ∀ k, 13841287300 ≤ k → spec_l01Child.f k p lv top dn a = some (enc (PM.about p (lv + 1) (PM.mark p ⟨lv, top, dn⟩ + a * pw p (lv + 6)))) := by
  intro k hk
  have hb := okb h
  have ht := ok_top hp h
  have h6 := pw_bd6 p dn hp (by omega)
  unfold spec_l01Child.f
  by_cases c : lv = 6
  · rw [if_pos c, about_out (by unfold PM.inLv; omega)]; rfl
  · rw [if_neg c, l01Power_eq p dn hp (by omega) (by omega) k (by omega)]
    simp only [Option.bind_some]
    by_cases g : lv ≥ 0
    · have hl := pw_bd6 p lv hp (by omega)
      have m1 := mul_bd2 (a := a) (b := pw p dn) 7 117649 (by omega) (by omega) (by omega) (by omega)
      have m2 := mul_bd2 (a := a * pw p dn) (b := pw p lv) 823543 117649 (by omega) (by omega) (by omega) (by omega)
      rw [if_pos g, l01Power_eq p lv hp (by omega) (by omega) k (by omega)]
      simp only [Option.bind_some]
      rw [w64 (n := a * pw p dn) (by omega) (by omega), w64 (n := a * pw p dn * pw p lv) (by omega) (by omega), w64 (n := top + a * pw p dn * pw p lv) (by omega) (by omega), w64 (n := lv + 1) (by omega) (by omega)]
      rw [l01Of_eq hp (by omega) (by omega) (by omega) k hk, lOf_eq_ballAt hp (by omega), show PM.ballAt p (top + a * pw p dn * pw p lv) (pw p dn) (lv + 1) = _ from PM.child_hi hp h a (lv + 1) g]
      rfl
    · have hl := pw_bd6 p (-lv) hp (by omega)
      rw [if_neg g, w64 (n := -lv) (by omega) (by omega), l01Power_eq p (-lv) hp (by omega) (by omega) k (by omega)]
      simp only [Option.bind_some]
      rw [if_neg (by omega), if_neg (by omega)]
      obtain ⟨e, f, d, hd, he, hf, e0, e1, f0, f1⟩ : ∃ e f d : Int, d = mx (pw p dn) (pw p (-lv)) ∧ d = pw p dn * e ∧ d = pw p (-lv) * f ∧ 0 ≤ e ∧ e ≤ 117649 ∧ 0 ≤ f ∧ f ≤ 117649 := by
        rw [mx_max]
        rcases Int.le_total dn (-lv) with y | y
        · have := pw_le hp y
          obtain ⟨z, hz⟩ := pw_dvd (p := p) y
          have z0 : 0 ≤ z := by
            rcases Int.lt_or_le z 0 with w | w
            · have := Int.mul_neg_of_pos_of_neg (show 0 < pw p dn by omega) w; omega
            · exact w
          have z1 : z ≤ pw p dn * z := by
            have := Int.mul_le_mul_of_nonneg_right (show 1 ≤ pw p dn by omega) z0; omega
          exact ⟨z, 1, pw p (-lv), by omega, hz, by omega, z0, by omega, by omega, by omega⟩
        · have := pw_le hp y
          obtain ⟨z, hz⟩ := pw_dvd (p := p) y
          have z0 : 0 ≤ z := by
            rcases Int.lt_or_le z 0 with w | w
            · have := Int.mul_neg_of_pos_of_neg (show 0 < pw p (-lv) by omega) w; omega
            · exact w
          have z1 : z ≤ pw p (-lv) * z := by
            have := Int.mul_le_mul_of_nonneg_right (show 1 ≤ pw p (-lv) by omega) z0; omega
          exact ⟨1, z, pw p dn, by omega, by omega, hz, by omega, by omega, z0, by omega⟩
      rw [← hd]
      have hdp : 0 < d ∧ d ≤ 117649 := by rw [hd, mx_max]; omega
      have q1 : d.tdiv (pw p dn) = e := by rw [he]; exact Int.mul_tdiv_cancel_left _ (by omega)
      have q2 : d.tdiv (pw p (-lv)) = f := by rw [hf]; exact Int.mul_tdiv_cancel_left _ (by omega)
      have m1 := mul_bd2 (a := top) (b := e) 13841287201 117649 (by omega) (by omega) (by omega) (by omega)
      have m2 := mul_bd2 (a := a) (b := f) 7 117649 (by omega) (by omega) (by omega) (by omega)
      rw [q1, q2, w64 (n := e) (by omega) (by omega), w64 (n := f) (by omega) (by omega), w64 (n := top * e) (by omega) (by omega), w64 (n := a * f) (by omega) (by omega), w64 (n := top * e + a * f) (by omega) (by omega), w64 (n := lv + 1) (by omega) (by omega)]
      rw [l01Of_eq hp (by omega) (by omega) (by omega) k hk, lOf_eq_ballAt hp (by omega), show PM.ballAt p (top * e + a * f) d (lv + 1) = _ from PM.child_lo hp h a (lv + 1) d e f (show -6 ≤ lv by omega) (show lv < 0 by omega) he hf (by omega)]
      rfl

theorem eqBalls (l : List S34) (hl : l.length ≤ 1048576) : ∀ k, l.length + 1 ≤ k → laws_eqBallS.f k l l = some true := by
  have go : ∀ (d k i : Nat), i + d = l.length → d < k → laws_eqBallS.l0 k l l i = some true := by
    intro d
    induction d with
    | zero =>
      intro k i h2 h3
      obtain ⟨k, rfl⟩ : ∃ m, k = m + 1 := ⟨k - 1, by omega⟩
      simp only [laws_eqBallS.l0]
      rw [if_neg (by omega)]
    | succ d ih =>
      intro k i h2 h3
      obtain ⟨k, rfl⟩ : ∃ m, k = m + 1 := ⟨k - 1, by omega⟩
      simp only [laws_eqBallS.l0, laws_eqBall.f]
      rw [if_pos (by omega), if_pos (by omega), if_pos (by omega), w64 (by omega) (by omega)]
      simp only [if_true, Option.bind_some]
      exact ih k (i + 1) (by omega) (by omega)
  intro k hk
  unfold laws_eqBallS.f
  rw [if_pos rfl]
  exact go l.length k 0 (by omega) (by omega)

theorem rdB2 (l : List S34) (i : Nat) (h : i < l.length) : rd_T34 l (i : Int) = l[i]'h := by
  simp [rd_T34, h]
theorem rdB3 (l : List S34) (i : Nat) (x : S34) (h : l[i]? = some x) : rd_T34 l (i : Int) = x := by
  obtain ⟨hi, e⟩ := List.getElem?_eq_some_iff.mp h
  rw [rdB2 l i hi]; exact e
theorem markBalls (l : List S34) (hl : l.length ≤ 1048576) : ∃ m : List S34, (∀ k, l.length + 1 ≤ k → laws_markBallS.f k l 1 = some (1 + 3 * (l.length : Int), m)) ∧ ∀ k, l.length + 1 ≤ k → laws_heldBallS.f k m 1 = some (1 + 3 * (l.length : Int)) := by
  have go : ∀ (d : Nat) (acc : List S34) (i : Nat), acc.length = l.length → i + d = l.length → (∀ j : Nat, j < i → acc[j]? = some ⟨1 + 3 * (j : Int), 2 + 3 * (j : Int), 3 + 3 * (j : Int)⟩) → ∃ m : List S34, (m.length = l.length ∧ ∀ j : Nat, j < l.length → m[j]? = some ⟨1 + 3 * (j : Int), 2 + 3 * (j : Int), 3 + 3 * (j : Int)⟩) ∧ ∀ k, d < k → laws_markBallS.l0 k acc (1 + 3 * (i : Int)) i = some (1 + 3 * (l.length : Int), m) := by
    intro d
    induction d with
    | zero =>
      intro acc i h1 h2 h4
      refine ⟨acc, ⟨h1, fun j hj => h4 j (by omega)⟩, fun k h3 => ?_⟩
      obtain ⟨k, rfl⟩ : ∃ m, k = m + 1 := ⟨k - 1, by omega⟩
      simp only [laws_markBallS.l0]
      rw [if_neg (by omega)]
      obtain rfl : i = l.length := by omega
      rfl
    | succ d ih =>
      intro acc i h1 h2 h4
      obtain ⟨m, hm, hk⟩ := ih (acc.set i ⟨1 + 3 * (i : Int), 2 + 3 * (i : Int), 3 + 3 * (i : Int)⟩) (i + 1) (by rw [List.length_set]; exact h1) (by omega) (fun j hj => by
        by_cases e : j = i
        · subst e
          rw [List.getElem?_set_self (by omega)]
        · rw [List.getElem?_set_ne (by omega)]
          exact h4 j (by omega))
      refine ⟨m, hm, fun k h3 => ?_⟩
      obtain ⟨k, rfl⟩ : ∃ m, k = m + 1 := ⟨k - 1, by omega⟩
      simp only [laws_markBallS.l0]
      rw [if_pos (by omega), if_pos (by omega), show ((i : Int).toNat) = i from by omega]
      simp only [Option.bind_some, List.set_set]
      rw [w64 (n := 1 + 3 * (i : Int) + 1) (by omega) (by omega), w64 (n := 1 + 3 * (i : Int) + 1 + 1) (by omega) (by omega), w64 (n := 1 + 3 * (i : Int) + 1 + 1 + 1) (by omega) (by omega), w64 (n := (i : Int) + 1) (by omega) (by omega)]
      have g : ∀ x : S34, rd_T34 (acc.set i x) (i : Int) = x := fun x => rdB3 _ _ _ (List.getElem?_set_self (by omega))
      simp only [g]
      have := hk k (by omega)
      rw [show (1 + 3 * (((i + 1 : Nat) : Int))) = 1 + 3 * (i : Int) + 1 + 1 + 1 from by omega, show (((i + 1 : Nat) : Int)) = (i : Int) + 1 from by omega] at this
      rw [show (1 + 3 * (i : Int) + 1 + 1) = 3 + 3 * (i : Int) by omega, show (1 + 3 * (i : Int) + 1) = 2 + 3 * (i : Int) by omega]
      rw [show (1 + 3 * (i : Int) + 1 + 1 + 1) = 3 + 3 * (i : Int) + 1 by omega] at this
      exact this
  obtain ⟨m, ⟨hm1, hm2⟩, hm3⟩ := go l.length l 0 rfl (by omega) (by intro j hj; omega)
  have ho : ∀ (d k i : Nat), i + d = m.length → d < k → laws_heldBallS.l0 k m (1 + 3 * (i : Int)) i = some (1 + 3 * (l.length : Int)) := by
    intro d
    induction d with
    | zero =>
      intro k i h2 h3
      obtain ⟨k, rfl⟩ : ∃ m, k = m + 1 := ⟨k - 1, by omega⟩
      simp only [laws_heldBallS.l0]
      rw [if_neg (by omega)]
      obtain rfl : i = l.length := by omega
      rfl
    | succ d ih =>
      intro k i h2 h3
      obtain ⟨k, rfl⟩ : ∃ m, k = m + 1 := ⟨k - 1, by omega⟩
      simp only [laws_heldBallS.l0]
      rw [rdB3 m i _ (hm2 i (by omega)), if_pos (by omega), if_pos (by omega), if_pos rfl]
      rw [w64 (n := 1 + 3 * (i : Int) + 1) (by omega) (by omega), w64 (n := 1 + 3 * (i : Int) + 1 + 1) (by omega) (by omega), w64 (n := 1 + 3 * (i : Int) + 1 + 1 + 1) (by omega) (by omega), w64 (n := (i : Int) + 1) (by omega) (by omega)]
      simp only
      rw [if_pos (by omega), if_pos (by omega)]
      have := ih k (i + 1) (by omega) (by omega)
      rw [show (1 + 3 * (((i + 1 : Nat) : Int))) = 1 + 3 * (i : Int) + 1 + 1 + 1 from by omega, show (((i + 1 : Nat) : Int)) = (i : Int) + 1 from by omega] at this
      exact this
  refine ⟨m, fun k hk => ?_, fun k hk => ?_⟩
  · unfold laws_markBallS.f
    exact hm3 k (by omega)
  · unfold laws_heldBallS.f
    exact ho m.length k 0 (by omega) (by omega)

theorem about_ok {p l x : Int} {b : PM.Ball} (hp : Pr p) (h : PM.about p l x = some b) : PM.Ok p b ∧ b.lv = l ∧ PM.inLv l ∧ PM.mark p b = x % pw p (l + 6) := by
  unfold PM.about at h
  by_cases hl : PM.inLv l
  · rw [if_pos hl] at h
    obtain rfl := Option.some.inj h
    have hl' := hl
    unfold PM.inLv at hl'
    have hq := pw_pos2 hp (l + 6)
    obtain ⟨o1, o2⟩ := PM.ok_mk hp hl'.1 hl'.2 (Int.emod_nonneg x (b := pw p (l + 6)) (by omega)) (Int.emod_lt_of_pos x hq)
    exact ⟨o1, rfl, hl, o2⟩
  · rw [if_neg hl] at h; cases h
theorem brV_bd {p lv x n d : Int} (hp : Pr p) : 0 ≤ brV p lv x n d ∧ brV p lv x n d ≤ p := by
  have hpp := hp.pos
  unfold brV
  by_cases c : d = 0 ∨ PM.turn p lv x n d < lv
  · rw [if_pos c]; omega
  · rw [if_neg c]
    obtain ⟨a, b⟩ := emb (PM.dv p x n d / pw p (lv + 6 + vl p d) * inv (un p d) p) p (by omega)
    omega
/-- the next ball by a number: 0 for the parent -/
def nb (p : Int) (b : PM.Ball) (k : Int) : Option PM.Ball := if k = 0 then PM.about p (b.lv - 1) (PM.mark p b) else PM.about p (b.lv + 1) (PM.mark p b + (k - 1) * pw p (b.lv + 6))
theorem nb_ok {p k : Int} {b c : PM.Ball} (hp : Pr p) (h : nb p b k = some c) : PM.Ok p c := by
  unfold nb at h
  by_cases z : k = 0
  · rw [if_pos z] at h; exact (about_ok hp h).1
  · rw [if_neg z] at h; exact (about_ok hp h).1

theorem neighbour_eq {p lv top dn i : Int} (hp : Pr p) (h : PM.Ok p ⟨lv, top, dn⟩) (hi : 0 ≤ i ∧ i ≤ 8) : ∀ k, 70 ≤ k → impl_neighbour.f k p lv top dn i = some (enc (nb p ⟨lv, top, dn⟩ i)) := by
  intro k hk
  unfold impl_neighbour.f nb
  by_cases z : i = 0
  · rw [if_pos z, if_pos z, up_eq hp h k hk]; rfl
  · rw [if_neg z, if_neg z, w64 (n := i - 1) (by omega) (by omega), down_eq hp h (by omega) k hk]; rfl

theorem joinLevel_eq {p l1 t1 d1 l2 t2 d2 : Int} (hp : Pr p) (hb : PM.Ok p ⟨l1, t1, d1⟩) (hc : PM.Ok p ⟨l2, t2, d2⟩) : ∀ k, 100 ≤ k → impl_joinLevel.f k p l1 t1 d1 l2 t2 d2 = some (PM.jl p ⟨l1, t1, d1⟩ ⟨l2, t2, d2⟩) := by
  intro k hk
  obtain ⟨m0, m1⟩ := PM.mark_bd hp hb
  obtain ⟨m2, m3⟩ := PM.mark_bd hp hc
  have b1 := pw_bd12 p (l1 + 6) hp (by have := hb.2.1; simp only at this; omega)
  have b2 := pw_bd12 p (l2 + 6) hp (by have := hc.2.1; simp only at this; omega)
  simp only at m1 m3
  unfold impl_joinLevel.f
  rw [mark_eq hp hb k (by omega), mark_eq hp hc k (by omega)]
  simp only [Option.bind_some]
  rw [w64 (n := PM.mark p ⟨l1, t1, d1⟩ - PM.mark p ⟨l2, t2, d2⟩) (by omega) (by omega), valuation_eq p _ hp (by omega) k (by omega)]
  simp only [Option.bind_some, mn_min]
  have hz := PM.vz_nonneg p (PM.mark p ⟨l1, t1, d1⟩ - PM.mark p ⟨l2, t2, d2⟩)
  have hz2 : vz p (PM.mark p ⟨l1, t1, d1⟩ - PM.mark p ⟨l2, t2, d2⟩) ≤ 1000 := by
    unfold vz
    by_cases z : PM.mark p ⟨l1, t1, d1⟩ - PM.mark p ⟨l2, t2, d2⟩ = 0
    · rw [if_pos z]; omega
    · rw [if_neg z]; have := vl_le63 hp z (by omega); omega
  rw [w64 (by omega) (by omega)]
  rfl
theorem distance_fin {p : Int} {b c : PM.Ball} (hb : PM.Ok p b) (hc : PM.Ok p c) : wrap64 (wrap64 (b.lv + c.lv) - wrap64 (2 * PM.jl p b c)) = PM.dist p b c := by
  obtain ⟨j1, j2, j3⟩ := PM.jl_bd p hb hc
  have h1 := hb.2.1
  have h2 := hc.2.1
  have h3 := hb.1
  have h4 := hc.1
  rw [w64 (n := b.lv + c.lv) (by omega) (by omega), w64 (n := 2 * PM.jl p b c) (by omega) (by omega), w64 (by omega) (by omega)]
  rfl

theorem distance_eq {p l1 t1 d1 l2 t2 d2 : Int} (hp : Pr p) (hb : PM.Ok p ⟨l1, t1, d1⟩) (hc : PM.Ok p ⟨l2, t2, d2⟩) : ∀ k, 100 ≤ k → impl_distance.f k p l1 t1 d1 l2 t2 d2 = some (PM.dist p ⟨l1, t1, d1⟩ ⟨l2, t2, d2⟩) := by
  intro k hk
  unfold impl_distance.f
  rw [joinLevel_eq hp hb hc k hk]
  simp only [Option.bind_some]
  exact congrArg some (distance_fin hb hc)

set_option maxHeartbeats 1600000 in
theorem l02Join_eq {p l1 t1 d1 l2 t2 d2 : Int} (hp : Pr p) (hb : PM.Ok p ⟨l1, t1, d1⟩) (hc : PM.Ok p ⟨l2, t2, d2⟩) : ∀ k, 100 ≤ k → spec_l02Join.f k p l1 t1 d1 l2 t2 d2 = some (PM.jl p ⟨l1, t1, d1⟩ ⟨l2, t2, d2⟩) := by
  intro k hk
  rw [PM.jl_ref hp hb hc]
  have tb : ∀ {l t d m : Int}, PM.Ok p ⟨l, t, d⟩ → d ≤ m → m ≤ 6 → 0 ≤ t * pw p (m - d) ∧ t * pw p (m - d) ≤ 13841287201 := by
    intro l t d m ho h1 h2
    obtain ⟨o1, o2, o3, o4, o5⟩ := ho
    simp only at o1 o2 o3 o4 o5
    have hq := pw_bd12 p (m - d) hp (by omega)
    rcases o5 with ⟨_, z, _⟩ | ⟨g, h0, h1', _⟩
    · rw [z]; simp
    · refine ⟨Int.mul_nonneg h0 (by omega), ?_⟩
      have h2 : t * pw p (m - d) ≤ pw p (l + d) * pw p (m - d) := Int.mul_le_mul_of_nonneg_right (by omega) (by omega)
      rw [← PM.pw_add (by omega) (by omega), show l + d + (m - d) = l + m by omega] at h2
      have := pw_bd12 p (l + m) hp (by omega)
      omega
  have b3 := hb.2.2.1
  have b4 := hb.2.2.2.1
  have c3 := hc.2.2.1
  have c4 := hc.2.2.2.1
  simp only at b3 b4 c3 c4 ⊢
  have h1 := tb hb (m := max d1 d2) (by omega) (by omega)
  have h2 := tb hc (m := max d1 d2) (by omega) (by omega)
  clear tb
  unfold spec_l02Join.f spec_l02Valuation.f
  simp only [mx_max, mn_min]
  obtain ⟨M, hM⟩ : ∃ M, M = max d1 d2 := ⟨_, rfl⟩
  rw [← hM] at h1 h2 ⊢
  rw [w64 (n := M - d1) (by omega) (by omega), w64 (n := M - d2) (by omega) (by omega), l01Power_eq p (M - d1) hp (by omega) (by omega) k (by omega), l01Power_eq p (M - d2) hp (by omega) (by omega) k (by omega)]
  simp only [Option.bind_some]
  rw [w64 (n := t1 * pw p (M - d1)) (by omega) (by omega), w64 (n := t2 * pw p (M - d2)) (by omega) (by omega), w64 (n := t1 * pw p (M - d1) - t2 * pw p (M - d2)) (by omega) (by omega)]
  have hD : (t1 * pw p (M - d1) - t2 * pw p (M - d2)).natAbs ≤ 9223372036854775807 := by omega
  generalize t1 * pw p (M - d1) - t2 * pw p (M - d2) = D at *
  by_cases z : D = 0
  · rw [if_pos z, if_pos z]
    simp only [Option.bind_some]
    rw [if_neg (by simp)]
  · rw [if_neg z, if_neg z, val_eq p D hp z hD k (by omega)]
    have hv := vl_le63 hp z (by omega)
    simp only [Option.bind_some, if_true]
    rw [w64 (by omega) (by omega)]

theorem l02Distance_eq {p l1 t1 d1 l2 t2 d2 : Int} (hp : Pr p) (hb : PM.Ok p ⟨l1, t1, d1⟩) (hc : PM.Ok p ⟨l2, t2, d2⟩) : ∀ k, 100 ≤ k → spec_l02Distance.f k p l1 t1 d1 l2 t2 d2 = some (PM.dist p ⟨l1, t1, d1⟩ ⟨l2, t2, d2⟩) := by
  intro k hk
  unfold spec_l02Distance.f
  rw [l02Join_eq hp hb hc k hk]
  simp only [Option.bind_some]
  exact congrArg some (distance_fin hb hc)

def enB (b : PM.Ball) : S34 := ⟨b.lv, b.top, b.dn⟩
theorem children_go {p : Int} {b : PM.Ball} (hp : Pr p) (hb : PM.Ok p b) : ∀ (c : Nat) (i : Int) (acc : List S34) (k : Nat), 0 ≤ i → i + c = p → acc.length + c ≤ 1000 → 13841287400 + c ≤ k → spec_l02Children.l0 k p acc i b.lv b.top b.dn = some (match PM.someN p b c (i + 1) with | none => ([], false) | some l => (acc ++ l.map enB, true)) := by
  have hpl := hp.le
  intro c
  induction c with
  | zero =>
    intro i acc k h0 h1 h2 hk
    obtain ⟨k, rfl⟩ : ∃ m, k = m + 1 := ⟨k - 1, by omega⟩
    simp only [spec_l02Children.l0]
    rw [if_neg (by omega)]
    simp [PM.someN]
  | succ c ih =>
    intro i acc k h0 h1 h2 hk
    obtain ⟨k, rfl⟩ : ∃ m, k = m + 1 := ⟨k - 1, by omega⟩
    simp only [spec_l02Children.l0]
    rw [if_pos (by omega), specDown_eq hp hb (by omega) k (by omega)]
    simp only [Option.bind_some]
    have hY : PM.about p (b.lv + 1) (PM.mark p ⟨b.lv, b.top, b.dn⟩ + i * pw p (b.lv + 6)) = PM.nbr p b (i + 1) := by
      unfold PM.nbr; rw [if_neg (by omega), show i + 1 - 1 = i by omega]
    rw [hY, PM.someN]
    cases hy : PM.nbr p b (i + 1) with
    | none => rw [if_neg (by simp [enc])]; rfl
    | some y =>
      rw [if_pos (by simp [enc]), if_pos (by omega), w64 (n := i + 1) (by omega) (by omega), ih (i + 1) _ k (by omega) (by omega) (by simp; omega) (by omega)]
      simp only [Option.bind_some]
      cases PM.someN p b c (i + 1 + 1) with
      | none => rfl
      | some l => simp [enB, enc]
theorem near_eq {p : Int} {b : PM.Ball} (hp : Pr p) (hb : PM.Ok p b) : ∀ k, 13841287500 ≤ k → (∀ l, PM.nbrs p b = some l → spec_l02Near.f k p b.lv b.top b.dn = some (l.map enB, true)) ∧ (PM.nbrs p b = none → ∃ m, spec_l02Near.f k p b.lv b.top b.dn = some (m, false)) := by
  intro k hk
  have hpl := hp.le
  have hpp := hp.pos
  have hc := children_go hp hb p.toNat 0 [] k (by omega) (by omega) (by simp; omega) (by omega)
  have hY : PM.about p (b.lv - 1) (PM.mark p ⟨b.lv, b.top, b.dn⟩) = PM.nbr p b 0 := by
    unfold PM.nbr; rw [if_pos rfl]
  unfold spec_l02Near.f spec_l02Children.f
  rw [specUp_eq hp hb k (by omega), hc, hY]
  simp only [Option.bind_some]
  have hn : PM.nbrs p b = (PM.nbr p b 0).bind fun y => (PM.someN p b p.toNat (0 + 1)).map fun l => y :: l := rfl
  rw [hn]
  cases hy : PM.nbr p b 0 with
  | none =>
    refine ⟨fun l h => by simp at h, fun _ => ?_⟩
    cases hs : PM.someN p b p.toNat (0 + 1) with
    | none => simp [enc]
    | some l =>
      have := PM.someN_len _ _ _ hs
      simp [enc]; omega
  | some y =>
    cases hs : PM.someN p b p.toNat (0 + 1) with
    | none => exact ⟨fun l h => by simp at h, fun _ => by simp [enc]⟩
    | some l =>
      have := PM.someN_len _ _ _ hs
      refine ⟨fun m h => ?_, fun h => by simp at h⟩
      simp only [Option.bind_some, Option.map_some, Option.some.injEq] at h
      subst h
      simp only [enc]
      rw [if_pos (by simp; omega)]
      simp [enB]

theorem rdBn (l : List PM.Ball) (pre : List PM.Ball) (x : PM.Ball) : rd_T34 ((pre ++ x :: l).map enB) ((pre.length : Nat) : Int) = enB x := by
  simp [rd_T34]
theorem sphere_l2 {p r n1 : Int} {b : PM.Ball} (hp : Pr p) (hb : PM.Ok p b) (cur : List S34) (i : Int) (R : List S34 × Int) (K : Nat) : ∀ (suf pre : List PM.Ball) (acc : List S34), (∀ y, y ∈ suf → PM.Ok p y) → pre.length + suf.length ≤ 1000 → acc.length + suf.length ≤ 1000000 → (∀ k, K ≤ k → spec_SphereAround.l1 k p r cur n1 (acc ++ (suf.filter (fun y => decide (PM.dist p b y = n1))).map enB) (wrap64 (i + 1)) b.lv b.top b.dn = some R) → ∀ k, K + suf.length + 101 ≤ k → spec_SphereAround.l2 k p r cur n1 acc i ((pre ++ suf).map enB) ((pre.length : Nat) : Int) b.lv b.top b.dn = some R := by
  intro suf
  induction suf with
  | nil =>
    intro pre acc ho h1 h2 H k hk
    obtain ⟨k, rfl⟩ : ∃ m, k = m + 1 := ⟨k - 1, by omega⟩
    simp only [spec_SphereAround.l2]
    rw [if_neg (by simp)]
    have := H k (by omega)
    simpa using this
  | cons y suf ih =>
    intro pre acc ho h1 h2 H k hk
    simp only [List.length_cons] at h1 h2 hk
    obtain ⟨k, rfl⟩ : ∃ m, k = m + 1 := ⟨k - 1, by omega⟩
    have oy := ho y List.mem_cons_self
    simp only [spec_SphereAround.l2]
    rw [if_pos (by simp; omega), if_pos (by omega), rdBn suf pre y, w64 (n := (pre.length : Int) + 1) (by omega) (by omega)]
    show ((spec_l02Distance.f k p b.lv b.top b.dn y.lv y.top y.dn).bind _) = _
    rw [l02Distance_eq hp hb oy k (by omega)]
    simp only [Option.bind_some]
    have e1 : (pre ++ y :: suf) = ((pre ++ [y]) ++ suf) := by simp
    have e2 : (pre.length : Int) + 1 = (((pre ++ [y]).length : Nat) : Int) := by simp
    show (if PM.dist p b y = n1 then _ else _) = _
    by_cases q : PM.dist p b y = n1
    · rw [if_pos q, if_pos (by omega), e1, e2]
      refine ih (pre ++ [y]) _ (fun z hz => ho z (List.mem_cons_of_mem _ hz)) (by simp; omega) (by simp; omega) (fun k hk => ?_) k (by omega)
      have := H k hk
      rw [List.filter_cons_of_pos (by simpa using q)] at this
      simpa [enB, List.append_assoc] using this
    · rw [if_neg q, e1, e2]
      refine ih (pre ++ [y]) _ (fun z hz => ho z (List.mem_cons_of_mem _ hz)) (by simp; omega) (by omega) (fun k hk => ?_) k (by omega)
      have := H k hk
      rwa [List.filter_cons_of_neg (by simpa using q)] at this
theorem sphere_l1 {p r n : Int} {b : PM.Ball} (hp : Pr p) (hb : PM.Ok p b) (hn : 0 ≤ n ∧ n ≤ 10) (R : List S34 × Int) (K : Nat) (hK : 13841287600 ≤ K) : ∀ (suf pre : List PM.Ball) (acc : List S34), (∀ y, y ∈ suf → PM.Ok p y) → pre.length + suf.length ≤ 100000 → acc.length + 8 * suf.length ≤ 900000 → (∀ l, PM.nextS p b n suf = some l → ∀ k, K ≤ k → spec_SphereAround.l0 k p r (acc ++ l.map enB) (wrap64 ((n + 1) + 1)) b.lv b.top b.dn = some R) → (PM.nextS p b n suf = none → R = ([], 3)) → ∀ k, K + 200 * suf.length + 1 ≤ k → spec_SphereAround.l1 k p r ((pre ++ suf).map enB) (n + 1) acc ((pre.length : Nat) : Int) b.lv b.top b.dn = some R := by
  have hpl := hp.le
  have hpp := hp.pos
  intro suf
  induction suf with
  | nil =>
    intro pre acc ho h1 h2 H Hn k hk
    obtain ⟨k, rfl⟩ : ∃ m, k = m + 1 := ⟨k - 1, by omega⟩
    simp only [spec_SphereAround.l1]
    rw [if_neg (by simp)]
    have := H [] rfl k (by omega)
    simpa using this
  | cons x suf ih =>
    intro pre acc ho h1 h2 H Hn k hk
    simp only [List.length_cons] at h1 h2 hk
    obtain ⟨k, rfl⟩ : ∃ m, k = m + 1 := ⟨k - 1, by omega⟩
    have ox := ho x List.mem_cons_self
    simp only [spec_SphereAround.l1]
    rw [if_pos (by simp; omega), if_pos (by omega), rdBn suf pre x]
    show ((spec_l02Near.f k p x.lv x.top x.dn).bind _) = _
    obtain ⟨n1, n2⟩ := near_eq hp ox k (by omega)
    cases hm : PM.nbrs p x with
    | none =>
      obtain ⟨m, e⟩ := n2 hm
      rw [e]
      simp only [Option.bind_some]
      rw [if_neg (by simp), Hn (by unfold PM.nextS; rw [hm]; rfl)]
    | some m =>
      rw [n1 m hm]
      simp only [Option.bind_some]
      rw [if_pos trivial]
      have ml := PM.someN_len _ _ _ hm
      have e1 : (pre ++ x :: suf) = ((pre ++ [x]) ++ suf) := by simp
      have flen : (m.filter (fun y => decide (PM.dist p b y = n + 1))).length ≤ m.length := List.length_filter_le ..
      refine sphere_l2 hp hb _ (pre.length : Int) R (K + 200 * suf.length + 1) m [] acc (fun y hy => by
        obtain ⟨j, _, _, j3⟩ := PM.someN_mem _ _ _ hm y hy
        exact PM.nbr_ok hp j3) (by simp; omega) (by omega) (fun k hk => ?_) k (by omega)
      rw [w64 (n := (pre.length : Int) + 1) (by omega) (by omega), e1, show (pre.length : Int) + 1 = (((pre ++ [x]).length : Nat) : Int) by simp]
      refine ih (pre ++ [x]) _ (fun z hz => ho z (List.mem_cons_of_mem _ hz)) (by simp; omega) (by simp; omega) (fun l hl k hk => ?_) (fun h => ?_) k (by omega)
      · have := H _ (show PM.nextS p b n (x :: suf) = some (m.filter (fun y => decide (PM.dist p b y = n + 1)) ++ l) by unfold PM.nextS; rw [hm, Option.bind_some, hl]; rfl) k hk
        simpa [List.append_assoc] using this
      · exact Hn (by unfold PM.nextS; rw [hm, Option.bind_some, h]; rfl)
theorem nextS_len {p n : Int} {b : PM.Ball} (hp : Pr p) : ∀ (l r : List PM.Ball), PM.nextS p b n l = some r → r.length ≤ 8 * l.length
  | [], r, h => by obtain rfl := Option.some.inj h; simp
  | x :: l, r, h => by
    have hpl := hp.le
    unfold PM.nextS at h
    obtain ⟨m, e1, e2⟩ := Option.bind_eq_some_iff.mp h
    obtain ⟨s, e3, rfl⟩ := Option.map_eq_some_iff.mp e2
    have ml := PM.someN_len _ _ _ e1
    have flen : (m.filter (fun y => decide (PM.dist p b y = n + 1))).length ≤ m.length := List.length_filter_le ..
    have := nextS_len hp l s e3
    simp only [List.length_append, List.length_cons]; omega
theorem sph_len {p : Int} {b : PM.Ball} (hp : Pr p) : ∀ (n : Nat) (l : List PM.Ball), PM.sph p b n = some l → l.length ≤ 8 ^ n
  | 0, l, h => by obtain rfl := Option.some.inj h; simp
  | n + 1, l, h => by
    unfold PM.sph at h
    obtain ⟨m, e1, e2⟩ := Option.bind_eq_some_iff.mp h
    have := sph_len hp n m e1
    have := nextS_len hp m l e2
    rw [Nat.pow_succ]; omega
theorem sph_none {p : Int} {b : PM.Ball} (n : Nat) (h : PM.sph p b n = none) : ∀ d : Nat, PM.sph p b (n + d) = none
  | 0 => h
  | d + 1 => by show (PM.sph p b (n + d)).bind _ = none; rw [sph_none n h d]; rfl
def sphR (p : Int) (b : PM.Ball) (r : Nat) : List S34 × Int := match PM.sph p b r with
  | none => ([], 3)
  | some l => (l.map enB, 0)
theorem sphere_l0 {p : Int} {b : PM.Ball} (hp : Pr p) (hb : PM.Ok p b) (r : Nat) (hr : r ≤ 4) : ∀ (d n : Nat) (l : List PM.Ball), n + d = r → PM.sph p b n = some l → ∀ k, 13841287600 + 1000000 * d + 1 ≤ k → spec_SphereAround.l0 k p (r : Int) (l.map enB) ((n : Int) + 1) b.lv b.top b.dn = some (sphR p b r) := by
  intro d
  induction d with
  | zero =>
    intro n l hn hl k hk
    obtain ⟨k, rfl⟩ : ∃ m, k = m + 1 := ⟨k - 1, by omega⟩
    simp only [spec_SphereAround.l0]
    rw [if_neg (by omega)]
    obtain rfl : n = r := by omega
    unfold sphR; rw [hl]
  | succ d ih =>
    intro n l hn hl k hk
    obtain ⟨k, rfl⟩ : ∃ m, k = m + 1 := ⟨k - 1, by omega⟩
    have hlen : l.length ≤ 4096 := Nat.le_trans (sph_len hp n l hl) (Nat.le_trans (Nat.pow_le_pow_right (by decide) (show n ≤ 4 by omega)) (by decide))
    simp only [spec_SphereAround.l0]
    rw [if_pos (by omega)]
    obtain ⟨B, hB⟩ : ∃ B : Nat, B = 13841287600 + 1000000 * d + 1 := ⟨_, rfl⟩
    have hB2 : 13841287600 ≤ B := by
      clear ih hk
      rw [hB, Nat.add_assoc]; exact Nat.le_add_right _ _
    have := sphere_l1 (r := (r : Int)) (n := (n : Int)) hp hb (by omega) (sphR p b r) B hB2 l [] [] (fun y hy => (PM.sph_mem hp hb n l hl y hy).1) (by simp; omega) (by simp; omega) (fun l' h' k hk => by
      rw [w64 (n := (n : Int) + 1 + 1) (by omega) (by omega), List.nil_append]
      exact ih (n + 1) l' (by omega) (by show (PM.sph p b n).bind _ = _; rw [hl]; exact h') k (by omega)) (fun h' => by
      have e : PM.sph p b (n + 1) = none := by show (PM.sph p b n).bind _ = _; rw [hl]; exact h'
      have := sph_none (n + 1) e d
      rw [show n + 1 + d = r by omega] at this
      unfold sphR; rw [this]) k (by omega)
    simpa using this
theorem sphereAround_eq {p : Int} {b : PM.Ball} (hp : Pr p) (hb : PM.Ok p b) (r : Nat) (hr : r ≤ 4) : ∃ K, ∀ k, K ≤ k → spec_SphereAround.f k p b.lv b.top b.dn (r : Int) = some (sphR p b r) := by
  obtain ⟨K, h⟩ := l01Code_eq p [enB b] (by simp)
  refine ⟨K + 13841287600 + 1000000 * r + 10, fun k hk => ?_⟩
  obtain ⟨k, rfl⟩ : ∃ m, k = m + 1 := ⟨k - 1, by omega⟩
  obtain ⟨k, rfl⟩ : ∃ m, k = m + 1 := ⟨k - 1, by omega⟩
  have e : [enB b].all (bOk p) = true := by
    simp only [List.all_cons, List.all_nil, Bool.and_true, bOk, decide_eq_true_iff]; exact hb
  unfold spec_SphereAround.f
  show ((spec_l01Code.f (k + 1 + 1) p [enB b]).bind _) = _
  rw [h _ (by omega), if_pos ⟨hp, e⟩]
  simp only [Option.bind_some]
  rw [if_pos trivial, in_eq, decide_eq_true (show (0 : Int) ≤ (r : Int) ∧ (r : Int) ≤ 4 by omega)]
  simp only [Option.bind_some, spec_SphereAround.j0, spec_SphereAround.j1]
  rw [if_neg (by simp), if_pos trivial]
  exact sphere_l0 hp hb r hr r 0 [b] (by omega) rfl k (by omega)

theorem someNeighbours_go {p : Int} {b : PM.Ball} (hp : Pr p) (hb : PM.Ok p b) : ∀ (c : Nat) (i : Int) (acc : List S34) (k : Nat), 0 ≤ i → i + c = p + 1 → acc.length + c ≤ 1000 → 75 + c ≤ k → impl_someNeighbours.l0 k p acc i b.lv b.top b.dn = some (match PM.someN p b c i with | none => ([], false) | some l => (acc ++ l.map enB, true)) := by
  have hpl := hp.le
  intro c
  induction c with
  | zero =>
    intro i acc k h0 h1 h2 hk
    obtain ⟨k, rfl⟩ : ∃ m, k = m + 1 := ⟨k - 1, by omega⟩
    simp only [impl_someNeighbours.l0]
    rw [if_neg (by omega)]
    simp [PM.someN]
  | succ c ih =>
    intro i acc k h0 h1 h2 hk
    obtain ⟨k, rfl⟩ : ∃ m, k = m + 1 := ⟨k - 1, by omega⟩
    simp only [impl_someNeighbours.l0]
    rw [if_pos (by omega), neighbour_eq hp hb (by omega) k (by omega), show nb p ⟨b.lv, b.top, b.dn⟩ i = PM.nbr p b i from rfl, PM.someN]
    simp only [Option.bind_some]
    cases hy : PM.nbr p b i with
    | none => rw [if_neg (by simp [enc])]; rfl
    | some y =>
      rw [if_pos (by simp [enc]), if_pos (by omega), w64 (n := i + 1) (by omega) (by omega), ih (i + 1) _ k (by omega) (by omega) (by simp; omega) (by omega)]
      simp only [Option.bind_some]
      cases PM.someN p b c (i + 1) with
      | none => rfl
      | some l => simp [enB, enc]
theorem someNeighbours_eq {p : Int} {b : PM.Ball} (hp : Pr p) (hb : PM.Ok p b) : ∀ k, 200 ≤ k → impl_someNeighbours.f k p b.lv b.top b.dn 0 = some (match PM.nbrs p b with | none => ([], false) | some l => (l.map enB, true)) := by
  intro k hk
  have hpl := hp.le
  have hpp := hp.pos
  have := someNeighbours_go hp hb (p.toNat + 1) 0 [] k (by omega) (by omega) (by simp; omega) (by omega)
  unfold impl_someNeighbours.f
  rw [this]; rfl

theorem ok_zero {p : Int} : PM.Ok p ⟨0, 0, 0⟩ := by
  unfold PM.Ok; simp

def regF (p : Int) : Nat → Nat → List S34
  | 0, n => (sphR p ⟨0, 0, 0⟩ n).1
  | d + 1, n => (sphR p ⟨0, 0, 0⟩ n).1 ++ regF p d (n + 1)
theorem sphR_len {p : Int} {b : PM.Ball} (hp : Pr p) (n : Nat) (hn : n ≤ 4) : (sphR p b n).1.length ≤ 4096 := by
  unfold sphR
  cases e : PM.sph p b n with
  | none => simp
  | some l =>
    have : l.length ≤ 4096 := Nat.le_trans (sph_len hp n l e) (Nat.le_trans (Nat.pow_le_pow_right (by decide) hn) (by decide))
    simpa using this
theorem region_go {p : Int} (hp : Pr p) (h0 : PM.Ok p ⟨0, 0, 0⟩) (r : Nat) (hr : r ≤ 4) : ∀ (d n : Nat) (acc : List S34), n + d = r → (acc.length : Int) + 5000 * (d : Int) ≤ 900000 → ∃ K, ∀ k, K ≤ k → spec_l06Region.l0 k p (r : Int) acc (n : Int) = some (acc ++ regF p d n) := by
  intro d
  induction d with
  | zero =>
    intro n acc hn hl
    obtain ⟨K, hK⟩ := sphereAround_eq hp h0 n (by omega)
    have hlen := sphR_len (b := ⟨0, 0, 0⟩) hp n (by omega)
    refine ⟨K + 5, fun k hk => ?_⟩
    obtain ⟨k, rfl⟩ : ∃ m, k = m + 1 := ⟨k - 1, by omega⟩
    obtain ⟨k, rfl⟩ : ∃ m, k = m + 1 := ⟨k - 1, by omega⟩
    have e : spec_SphereAround.f (k + 1) p 0 0 0 (n : Int) = some (sphR p ⟨0, 0, 0⟩ n) := hK (k + 1) (by omega)
    simp only [spec_l06Region.l0]
    rw [if_pos (by omega), e]
    simp only [Option.bind_some]
    rw [if_pos (by omega), w64 (n := (n : Int) + 1) (by omega) (by omega), if_neg (by omega)]
    rfl
  | succ d ih =>
    intro n acc hn hl
    obtain ⟨K, hK⟩ := sphereAround_eq hp h0 n (by omega)
    have hlen := sphR_len (b := ⟨0, 0, 0⟩) hp n (by omega)
    obtain ⟨K2, hK2⟩ := ih (n + 1) (acc ++ (sphR p ⟨0, 0, 0⟩ n).1) (by omega) (by simp; omega)
    refine ⟨K + K2 + 5, fun k hk => ?_⟩
    obtain ⟨k, rfl⟩ : ∃ m, k = m + 1 := ⟨k - 1, by omega⟩
    have e : spec_SphereAround.f k p 0 0 0 (n : Int) = some (sphR p ⟨0, 0, 0⟩ n) := hK k (by omega)
    simp only [spec_l06Region.l0]
    rw [if_pos (by omega), e]
    simp only [Option.bind_some]
    rw [if_pos (by omega), w64 (n := (n : Int) + 1) (by omega) (by omega), show (n : Int) + 1 = ((n + 1 : Nat) : Int) by omega, hK2 k (by omega), List.append_assoc]
    rfl
theorem l06Region_eq {p : Int} (hp : Pr p) (r : Nat) (hr : r ≤ 4) : ∃ K, ∀ k, K ≤ k → spec_l06Region.f k p (r : Int) = some (regF p r 0) := by
  obtain ⟨K, h⟩ := region_go hp ok_zero r hr r 0 [] (by omega) (by simp; omega)
  refine ⟨K, fun k hk => ?_⟩
  unfold spec_l06Region.f
  have := h k hk
  simpa using this

def outs (p : Int) (b : PM.Ball) (n : Nat) : List (List S34) := (List.range (n + 1)).map fun i => (sphR p b i).1
theorem outs_len (p : Int) (b : PM.Ball) (n : Nat) : (outs p b n).length = n + 1 := by simp [outs]
theorem outs_succ (p : Int) (b : PM.Ball) (n : Nat) : outs p b (n + 1) = outs p b n ++ [(sphR p b (n + 1)).1] := by
  unfold outs; rw [List.range_succ (n := n + 1), List.map_append]; rfl
theorem outs_get (p : Int) (b : PM.Ball) (n i : Nat) (h : i ≤ n) : rd_L4 (outs p b n) (i : Int) = (sphR p b i).1 := by
  unfold rd_L4 outs
  rw [Int.toNat_natCast, List.getD_eq_getElem?_getD, List.getElem?_map, List.getElem?_range (by omega)]; rfl
theorem isph_l2 {p r n : Int} {b : PM.Ball} (hp : Pr p) (hb : PM.Ok p b) (X : List (List S34)) (cur : List S34) (cl i : Int) (R : List (List S34) × Bool) (K : Nat) : ∀ (suf pre : List PM.Ball) (acc : List S34), (∀ y, y ∈ suf → PM.Ok p y ∧ (PM.dist p b y > n ↔ PM.dist p b y = n + 1)) → pre.length + suf.length ≤ 1000 → acc.length + suf.length ≤ 1000000 → (∀ k, K ≤ k → impl_spheres.l1 k p X n (acc ++ (suf.filter (fun y => decide (PM.dist p b y = n + 1))).map enB) r n cur cl (wrap64 (i + 1)) b.lv b.top b.dn = some R) → ∀ k, K + suf.length + 101 ≤ k → impl_spheres.l2 k p X n acc r n cur cl i ((pre ++ suf).map enB) (((pre ++ suf).map enB).length : Int) ((pre.length : Nat) : Int) b.lv b.top b.dn = some R := by
  intro suf
  induction suf with
  | nil =>
    intro pre acc ho h1 h2 H k hk
    obtain ⟨k, rfl⟩ : ∃ m, k = m + 1 := ⟨k - 1, by omega⟩
    simp only [impl_spheres.l2]
    rw [if_neg (by simp)]
    have := H k (by omega)
    simpa using this
  | cons y suf ih =>
    intro pre acc ho h1 h2 H k hk
    simp only [List.length_cons] at h1 h2 hk
    obtain ⟨k, rfl⟩ : ∃ m, k = m + 1 := ⟨k - 1, by omega⟩
    obtain ⟨oy, hy⟩ := ho y List.mem_cons_self
    simp only [impl_spheres.l2]
    rw [if_pos (by simp; omega), if_pos (by omega), if_pos (by simp; omega), rdBn suf pre y, w64 (n := (pre.length : Int) + 1) (by omega) (by omega)]
    show ((impl_distance.f k p b.lv b.top b.dn y.lv y.top y.dn).bind _) = _
    rw [distance_eq hp hb oy k (by omega)]
    simp only [Option.bind_some]
    have e1 : (pre ++ y :: suf) = ((pre ++ [y]) ++ suf) := by simp
    have e2 : (pre.length : Int) + 1 = (((pre ++ [y]).length : Nat) : Int) := by simp
    show (if PM.dist p b y > n then _ else _) = _
    by_cases q : PM.dist p b y > n
    · have q2 := hy.mp q
      rw [if_pos q, if_pos (by omega), e1, e2]
      refine ih (pre ++ [y]) _ (fun z hz => ho z (List.mem_cons_of_mem _ hz)) (by simp; omega) (by simp; omega) (fun k hk => ?_) k (by omega)
      have := H k hk
      rw [List.filter_cons_of_pos (by simpa using q2)] at this
      simpa [enB, List.append_assoc] using this
    · have q2 : ¬ PM.dist p b y = n + 1 := fun z => q (hy.mpr z)
      rw [if_neg q, e1, e2]
      refine ih (pre ++ [y]) _ (fun z hz => ho z (List.mem_cons_of_mem _ hz)) (by simp; omega) (by omega) (fun k hk => ?_) k (by omega)
      have := H k hk
      rwa [List.filter_cons_of_neg (by simpa using q2)] at this
theorem isph_l1 {p r n : Int} {b : PM.Ball} (hp : Pr p) (hb : PM.Ok p b) (hn : 0 ≤ n ∧ n ≤ 10) (X : List (List S34)) (hX : X.length ≤ 1000) (R : List (List S34) × Bool) (K : Nat) (hK : 200 ≤ K) : ∀ (suf pre : List PM.Ball) (acc : List S34), (∀ y, y ∈ suf → PM.Ok p y ∧ PM.dist p b y = n) → pre.length + suf.length ≤ 100000 → acc.length + 8 * suf.length ≤ 900000 → (∀ l, PM.nextS p b n suf = some l → ∀ k, K ≤ k → impl_spheres.l0 k p (X ++ [acc ++ l.map enB]) r (wrap64 (n + 1)) b.lv b.top b.dn = some R) → (PM.nextS p b n suf = none → R = ([], false)) → ∀ k, K + 200 * suf.length + 1 ≤ k → impl_spheres.l1 k p X n acc r n ((pre ++ suf).map enB) (((pre ++ suf).map enB).length : Int) ((pre.length : Nat) : Int) b.lv b.top b.dn = some R := by
  have hpl := hp.le
  have hpp := hp.pos
  intro suf
  induction suf with
  | nil =>
    intro pre acc ho h1 h2 H Hn k hk
    obtain ⟨k, rfl⟩ : ∃ m, k = m + 1 := ⟨k - 1, by omega⟩
    simp only [impl_spheres.l1]
    rw [if_neg (by simp), if_pos (by omega)]
    have := H [] rfl k (by omega)
    simpa using this
  | cons x suf ih =>
    intro pre acc ho h1 h2 H Hn k hk
    simp only [List.length_cons] at h1 h2 hk
    obtain ⟨k, rfl⟩ : ∃ m, k = m + 1 := ⟨k - 1, by omega⟩
    obtain ⟨ox, dx⟩ := ho x List.mem_cons_self
    simp only [impl_spheres.l1]
    rw [if_pos (by simp; omega), if_pos (by omega), if_pos (by simp; omega), rdBn suf pre x]
    show ((impl_someNeighbours.f k p x.lv x.top x.dn 0).bind _) = _
    rw [someNeighbours_eq hp ox k (by omega)]
    simp only [Option.bind_some]
    cases hm : PM.nbrs p x with
    | none =>
      simp only
      rw [if_neg (by simp), Hn (by unfold PM.nextS; rw [hm]; rfl)]
    | some m =>
      simp only
      rw [if_pos trivial]
      have ml := PM.someN_len _ _ _ hm
      have e1 : (pre ++ x :: suf) = ((pre ++ [x]) ++ suf) := by simp
      have flen : (m.filter (fun y => decide (PM.dist p b y = n + 1))).length ≤ m.length := List.length_filter_le ..
      refine isph_l2 hp hb X _ _ (pre.length : Int) R (K + 200 * suf.length + 1) m [] acc (fun y hy => by
        obtain ⟨j, _, _, j3⟩ := PM.someN_mem _ _ _ hm y hy
        exact ⟨PM.nbr_ok hp j3, PM.beyond hp hb ox dx j3⟩) (by simp; omega) (by omega) (fun k hk => ?_) k (by omega)
      rw [w64 (n := (pre.length : Int) + 1) (by omega) (by omega), e1, show (pre.length : Int) + 1 = (((pre ++ [x]).length : Nat) : Int) by simp]
      refine ih (pre ++ [x]) _ (fun z hz => ho z (List.mem_cons_of_mem _ hz)) (by simp; omega) (by simp; omega) (fun l hl k hk => ?_) (fun h => ?_) k (by omega)
      · have := H _ (show PM.nextS p b n (x :: suf) = some (m.filter (fun y => decide (PM.dist p b y = n + 1)) ++ l) by unfold PM.nextS; rw [hm, Option.bind_some, hl]; rfl) k hk
        simpa [List.append_assoc] using this
      · exact Hn (by unfold PM.nextS; rw [hm, Option.bind_some, h]; rfl)
def sphsR (p : Int) (b : PM.Ball) (r : Nat) : List (List S34) × Bool := match PM.sph p b r with
  | none => ([], false)
  | some _ => (outs p b r, true)
theorem isph_l0 {p : Int} {b : PM.Ball} (hp : Pr p) (hb : PM.Ok p b) (r : Nat) (hr : r ≤ 4) : ∀ (d n : Nat) (l : List PM.Ball), n + d = r → PM.sph p b n = some l → ∀ k, 1000 + 1000000 * d + 1 ≤ k → impl_spheres.l0 k p (outs p b n) (r : Int) (n : Int) b.lv b.top b.dn = some (sphsR p b r) := by
  intro d
  induction d with
  | zero =>
    intro n l hn hl k hk
    obtain ⟨k, rfl⟩ : ∃ m, k = m + 1 := ⟨k - 1, by omega⟩
    simp only [impl_spheres.l0]
    rw [if_neg (by omega)]
    obtain rfl : n = r := by omega
    unfold sphsR; rw [hl]
  | succ d ih =>
    intro n l hn hl k hk
    obtain ⟨k, rfl⟩ : ∃ m, k = m + 1 := ⟨k - 1, by omega⟩
    have hlen : l.length ≤ 4096 := Nat.le_trans (sph_len hp n l hl) (Nat.le_trans (Nat.pow_le_pow_right (by decide) (show n ≤ 4 by omega)) (by decide))
    have hg : rd_L4 (outs p b n) (n : Int) = l.map enB := by
      rw [outs_get p b n n (Nat.le_refl _)]; unfold sphR; rw [hl]
    simp only [impl_spheres.l0]
    rw [if_pos (by omega), if_pos (by omega), if_pos (by rw [outs_len]; omega), hg]
    obtain ⟨B, hB⟩ : ∃ B : Nat, B = 1000 + 1000000 * d + 1 := ⟨_, rfl⟩
    have hB2 : 200 ≤ B := by
      clear ih hk
      omega
    have := isph_l1 (r := (r : Int)) (n := (n : Int)) hp hb (by omega) (outs p b n) (by rw [outs_len]; omega) (sphsR p b r) B hB2 l [] [] (fun y hy => by
      obtain ⟨o, e⟩ := PM.sph_mem hp hb n l hl y hy
      exact ⟨o, e⟩) (by simp; omega) (by simp; omega) (fun l' h' k hk => by
      have hs : PM.sph p b (n + 1) = some l' := by show (PM.sph p b n).bind _ = _; rw [hl]; exact h'
      rw [w64 (n := (n : Int) + 1) (by omega) (by omega), List.nil_append]
      have e : outs p b n ++ [l'.map enB] = outs p b (n + 1) := by rw [outs_succ]; unfold sphR; rw [hs]
      rw [e, show (n : Int) + 1 = ((n + 1 : Nat) : Int) by omega]
      exact ih (n + 1) l' (by omega) hs k (by omega)) (fun h' => by
      have e : PM.sph p b (n + 1) = none := by show (PM.sph p b n).bind _ = _; rw [hl]; exact h'
      have := sph_none (n + 1) e d
      rw [show n + 1 + d = r by omega] at this
      unfold sphsR; rw [this]) k (by omega)
    simpa using this
theorem spheres_eq {p : Int} {b : PM.Ball} (hp : Pr p) (hb : PM.Ok p b) (r : Nat) (hr : r ≤ 4) : ∀ k, 5000000 ≤ k → impl_spheres.f k p b.lv b.top b.dn (r : Int) = some (sphsR p b r) := by
  intro k hk
  unfold impl_spheres.f
  exact isph_l0 hp hb r hr r 0 [b] (by omega) rfl k (by omega)
theorem sphs_some {p : Int} {b : PM.Ball} (hp : Pr p) (hb : PM.Ok p b) (r : Nat) (h0 : -6 < b.lv - r + 1) (h1 : b.lv + r - 1 < 6) : sphsR p b r = (outs p b r, true) := by
  obtain ⟨l, e⟩ := PM.sph_some hp hb r h0 h1
  unfold sphsR; rw [e]

theorem rdLn (l : List (List S34)) (pre : List (List S34)) (x : List S34) : rd_L4 (pre ++ x :: l) ((pre.length : Nat) : Int) = x := by
  simp [rd_L4]
theorem concat_l1 : ∀ (suf pre : List (List S34)) (acc : List S34), pre.length + suf.length ≤ 1000 → acc.length + suf.flatten.length ≤ 1000000 → ∀ k, suf.length + 1 ≤ k → impl_Ball_143.l1 k acc (pre ++ suf) ((pre ++ suf).length : Int) ((pre.length : Nat) : Int) = some (acc ++ suf.flatten) := by
  intro suf
  induction suf with
  | nil =>
    intro pre acc h1 h2 k hk
    obtain ⟨k, rfl⟩ : ∃ m, k = m + 1 := ⟨k - 1, by omega⟩
    simp only [impl_Ball_143.l1]
    rw [if_neg (by simp)]; simp
  | cons x suf ih =>
    intro pre acc h1 h2 k hk
    simp only [List.length_cons, List.flatten_cons, List.length_append] at h1 h2 hk
    obtain ⟨k, rfl⟩ : ∃ m, k = m + 1 := ⟨k - 1, by omega⟩
    simp only [impl_Ball_143.l1]
    rw [if_pos (by simp; omega), if_pos (by omega), if_pos (by simp; omega), rdLn suf pre x, if_pos (by omega), w64 (n := (pre.length : Int) + 1) (by omega) (by omega)]
    have e1 : (pre ++ x :: suf) = ((pre ++ [x]) ++ suf) := by simp
    rw [e1, show (pre.length : Int) + 1 = (((pre ++ [x]).length : Nat) : Int) by simp, ih (pre ++ [x]) (acc ++ x) (by simp; omega) (by rw [List.length_append]; omega) k (by omega), List.flatten_cons, List.append_assoc]
theorem concat_l0 (all : List (List S34)) (ha : all.flatten.length ≤ 1000000) (hal : all.length ≤ 1000) : ∀ (suf pre : List (List S34)) (s : Int), all = pre ++ suf → 0 ≤ s → s + suf.flatten.length ≤ 1000000 → ∀ k, suf.length + all.length + 2 ≤ k → impl_Ball_143.l0 k all s all (all.length : Int) ((pre.length : Nat) : Int) = some all.flatten := by
  intro suf
  induction suf with
  | nil =>
    intro pre s he h0 h2 k hk
    obtain ⟨k, rfl⟩ : ∃ m, k = m + 1 := ⟨k - 1, by omega⟩
    simp only [List.flatten_nil, List.length_nil] at h2
    simp only [impl_Ball_143.l0]
    rw [if_neg (by rw [he]; simp), show impl_Ball_154.f 0 s = some [] from by unfold impl_Ball_154.f; rw [if_pos (by omega)]]
    simp only [Option.bind_some]
    have := concat_l1 all [] [] (by simp; omega) (by rw [List.length_nil]; omega) k (by simp at hk; omega)
    simpa using this
  | cons x suf ih =>
    intro pre s he h0 h2 k hk
    simp only [List.length_cons, List.flatten_cons, List.length_append] at h2 hk
    obtain ⟨k, rfl⟩ : ∃ m, k = m + 1 := ⟨k - 1, by omega⟩
    have hal2 : pre.length + suf.length + 1 ≤ 1000 := by rw [he] at hal; simp at hal; omega
    have hx : rd_L4 all (pre.length : Int) = x := by rw [he]; exact rdLn suf pre x
    simp only [impl_Ball_143.l0]
    rw [if_pos (by rw [he]; simp; omega), if_pos (by omega), if_pos (by rw [he]; simp; omega), hx, w64 (n := s + (x.length : Int)) (by omega) (by omega), if_neg (by omega), w64 (n := (pre.length : Int) + 1) (by omega) (by omega), show (pre.length : Int) + 1 = (((pre ++ [x]).length : Nat) : Int) by simp]
    exact ih (pre ++ [x]) (s + (x.length : Int)) (by rw [he]; simp) (by omega) (by omega) k (by omega)
theorem concat_eq (all : List (List S34)) (ha : all.flatten.length ≤ 1000000) (hal : all.length ≤ 1000) : ∀ k, 2 * all.length + 2 ≤ k → impl_Ball_143.f k all = some all.flatten := by
  intro k hk
  unfold impl_Ball_143.f
  exact concat_l0 all ha hal all [] 0 rfl (by omega) (by omega) k (by omega)
theorem regF_eq (p : Int) : ∀ (d n : Nat), regF p d n = ((List.range (d + 1)).map fun i => (sphR p ⟨0, 0, 0⟩ (n + i)).1).flatten := by
  intro d
  induction d with
  | zero => intro n; simp [regF]
  | succ d ih =>
    intro n
    rw [List.range_succ_eq_map, List.map_cons, List.flatten_cons, List.map_map]
    show (sphR p ⟨0, 0, 0⟩ n).1 ++ regF p d (n + 1) = _
    rw [ih (n + 1)]
    have : (fun i => (sphR p ⟨0, 0, 0⟩ (n + 1 + i)).1) = ((fun i => (sphR p ⟨0, 0, 0⟩ (n + i)).1) ∘ Nat.succ) := by
      funext i; simp only [Function.comp]; rw [show n + 1 + i = n + i.succ by omega]
    rw [this]; rfl
theorem outs_flat (p : Int) (r : Nat) : (outs p ⟨0, 0, 0⟩ r).flatten = regF p r 0 := by
  rw [regF_eq]; unfold outs; simp
theorem regF_len {p : Int} (hp : Pr p) : ∀ (d n : Nat), n + d ≤ 4 → (regF p d n).length ≤ 4096 * (d + 1) := by
  intro d
  induction d with
  | zero => intro n h; have := sphR_len (b := ⟨0, 0, 0⟩) hp n (by omega); simpa [regF] using this
  | succ d ih =>
    intro n h
    have h1 := sphR_len (b := ⟨0, 0, 0⟩) hp n (by omega)
    have h2 := ih (n + 1) (by omega)
    show ((sphR p ⟨0, 0, 0⟩ n).1 ++ regF p d (n + 1)).length ≤ _
    rw [List.length_append]; omega
theorem region_eq {p : Int} (hp : Pr p) (r : Nat) (hr : r ≤ 4) : ∀ k, 5000000 ≤ k → impl_region.f k p (r : Int) = some (regF p r 0) := by
  intro k hk
  have hs := sphs_some hp ok_zero r (show (-6 : Int) < 0 - r + 1 by omega) (show (0 : Int) + r - 1 < 6 by omega)
  have he : impl_spheres.f k p 0 0 0 (r : Int) = some (sphsR p ⟨0, 0, 0⟩ r) := spheres_eq hp ok_zero r hr k hk
  have hl := regF_len hp r 0 (by omega)
  unfold impl_region.f
  rw [he, hs]
  simp only [Option.bind_some]
  rw [concat_eq _ (by rw [outs_flat]; omega) (by rw [outs_len]; omega) k (by rw [outs_len]; omega), outs_flat]
  rfl

theorem prime_dec (p : Int) : spec_l01Prime.f p = some (decide (Pr p)) := by
  rcases prime_cases p with ⟨h, h2⟩ | ⟨h, h2⟩
  · rw [h, decide_eq_true (show Pr p from h2)]
  · rw [h, decide_eq_false (show ¬ Pr p from h2)]


def res (p r : Int) : List S34 × Int := if Pr p then (if 0 ≤ r ∧ r ≤ 3 then (regF p r.toNat 0, 0) else ([], 2)) else ([], 1)
theorem res_len (p r : Int) : (res p r).1.length ≤ 100000 := by
  unfold res
  by_cases c : Pr p
  · rw [if_pos c]
    by_cases e : 0 ≤ r ∧ r ≤ 3
    · rw [if_pos e]
      have := regF_len c r.toNat 0 (by omega)
      simp only; omega
    · rw [if_neg e]; simp
  · rw [if_neg c]; simp
theorem spec_res (p r : Int) : ∃ K, ∀ k, K ≤ k → spec_RegionOf.f k p r = some (res p r) := by
  by_cases c : Pr p ∧ 0 ≤ r ∧ r ≤ 3
  · obtain ⟨K, hK⟩ := l06Region_eq c.1 r.toNat (by omega)
    refine ⟨K, fun k hk => ?_⟩
    have := hK k hk
    rw [Int.toNat_of_nonneg c.2.1] at this
    unfold spec_RegionOf.f res
    rw [prime_dec, in_eq, if_pos c.1, if_pos c.2, decide_eq_true c.1, decide_eq_true c.2]
    simp only [Option.bind_some, if_true]
    rw [this]; rfl
  · refine ⟨0, fun k _ => ?_⟩
    unfold spec_RegionOf.f res
    rw [prime_dec, in_eq]
    by_cases d : Pr p
    · rw [if_pos d, if_neg (fun z => c ⟨d, z⟩), decide_eq_true d, decide_eq_false (fun z => c ⟨d, z⟩)]; simp
    · rw [if_neg d, decide_eq_false d]; simp
theorem impl_res (p r : Int) : ∃ K, ∀ k, K ≤ k → impl_RegionOf.f k p r = some (res p r) := by
  refine ⟨5000000, fun k hk => ?_⟩
  unfold impl_RegionOf.f impl_isRadius.f res
  rw [isPrime_eq, prime_dec]
  by_cases d : Pr p
  · rw [if_pos d, decide_eq_true d]
    simp only [Option.bind_some, if_true]
    by_cases e : 0 ≤ r ∧ r ≤ 3
    · have := region_eq d r.toNat (by omega) k hk
      rw [Int.toNat_of_nonneg e.1] at this
      rw [if_pos e, if_pos e.1, decide_eq_true e.2]
      simp only [Option.bind_some, if_true]
      rw [this]; rfl
    · rw [if_neg e]
      by_cases g : r ≥ 0
      · rw [if_pos g, decide_eq_false (by omega)]; simp
      · rw [if_neg g]; simp
  · rw [if_neg d, decide_eq_false d]; simp
theorem FnExactRegionOf (p r : Int) (_ : (Lit.int .i64 p).wf = true) (_ : (Lit.int .i64 r).wf = true) : ∃ k, laws_FnExactRegionOf.f k p r = some true := by
  obtain ⟨K1, h1⟩ := spec_res p r
  obtain ⟨K2, h2⟩ := impl_res p r
  have hl := res_len p r
  obtain ⟨m, m1, m2⟩ := markBalls (res p r).1 (by omega)
  refine ⟨K1 + K2 + 100100, ?_⟩
  unfold laws_FnExactRegionOf.f
  rw [h1 _ (by omega), h2 _ (by omega)]
  simp only [Option.bind_some]
  rw [eqBalls _ (by omega) _ (by omega)]
  simp only [Option.bind_some, if_true, bne_self_eq_false]
  rw [show K1 + K2 + 100100 = (K1 + K2 + 100098) + 1 + 1 from rfl]
  simp only [laws_FnExactRegionOf.j0]
  rw [if_neg (by simp), m1 _ (by omega)]
  simp only [Option.bind_some]
  rw [m2 _ (by omega)]
  simp only [Option.bind_some, if_true]
  rw [if_neg (by omega), h2 _ (by omega)]
  simp only [Option.bind_some]
  rw [eqBalls _ (by omega) _ (by omega)]
  simp only [Option.bind_some, if_true, bne_self_eq_false, laws_FnExactRegionOf.j1]
  rw [if_neg (by simp), m2 _ (by omega)]
  simp only [Option.bind_some, if_true]
  rw [if_neg (by omega)]

end Go.Proofs.Ytfkglijnbgijbaa.Pure
