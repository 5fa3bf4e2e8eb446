/- The program's PlaceOfBall and the reference's return the same, for all arguments: the printed functions' law answers true. -/
import Derived.Test.YtfkglijnbgijbaaQLFnExactPlaceOfBall
import Derived.Test.YtfkglijnbgijbaaMath
set_option linter.unusedVariables false
set_option linter.unusedSimpArgs false
namespace Go.Proofs.Ytfkglijnbgijbaa.Pure
open Go.RowKit Go.Proofs.Ytfkglijnbgijbaa.PAll Go.Proofs.YtfkglijnbgijbaaW.PrintWords Go.Proofs.YtfkglijnbgijbaaW.PrintLast PM

theorem w64 {n : Int} (h1 : -9223372036854775808 ≤ n) (h2 : n ≤ 9223372036854775807) : wrap64 n = n := by unfold wrap64; omega
theorem wfb {n : Int} (h : (Lit.int .i64 n).wf = true) : -9223372036854775808 ≤ n ∧ n ≤ 9223372036854775807 := by
  simp [Lit.wf, IntKind.min, IntKind.max, IntKind.bits, IntKind.signed] at h; omega
theorem rd_nat (l : List Int) (i : Nat) (h : i < l.length) : l[i]? = some (rd l (i : Int)) := by
  unfold rd; simp [List.getD_eq_getElem?_getD, h]

theorem prime_cases (p : Int) : (spec_l01Prime.f p = some true ∧ (p = 2 ∨ p = 3 ∨ p = 5 ∨ p = 7)) ∨ (spec_l01Prime.f p = some false ∧ ¬ (p = 2 ∨ p = 3 ∨ p = 5 ∨ p = 7)) := by
  unfold spec_l01Prime.f
  by_cases h2 : p = 2
  · simp [h2]
  by_cases h3 : p = 3
  · simp [h3]
  by_cases h5 : p = 5
  · simp [h5]
  by_cases h7 : p = 7
  · simp [h7]
  · simp [h2, h3, h5, h7]

theorem isPrime_eq (p : Int) : impl_isPrime.f p = spec_l01Prime.f p := rfl

theorem in_eq (n a b : Int) : spec_l01In.f n a b = some (decide (a ≤ n ∧ n ≤ b)) := by
  unfold spec_l01In.f
  by_cases h : a ≤ n
  · rw [if_pos h]; simp [h]
  · rw [if_neg (by omega)]; simp [h]

/-- all numbers of a list have absolute values of at most so much -/
def allB (m : Int) (l : List Int) : Bool := l.all fun x => decide (-m ≤ x ∧ x ≤ m)
theorem allB_drop (m : Int) (l : List Int) (i : Nat) (h : i < l.length) : allB m (l.drop i) = (decide (-m ≤ rd l i ∧ rd l i ≤ m) && allB m (l.drop (i + 1))) := by
  have h1 := rd_nat l i h
  rw [List.getElem?_eq_getElem h] at h1
  rw [List.drop_eq_getElem_cons h, Option.some.inj h1]; rfl
theorem allB_rd {m : Int} {l : List Int} (h : allB m l = true) {i : Int} (h0 : 0 ≤ i) (h1 : i < l.length) : -m ≤ rd l i ∧ rd l i ≤ m := by
  obtain ⟨n, rfl⟩ := Int.eq_ofNat_of_zero_le h0
  have h2 := rd_nat l n (by omega)
  rw [List.getElem?_eq_getElem (by omega)] at h2
  unfold allB at h
  rw [List.all_eq_true] at h
  have := h (l[n]'(by omega)) (List.getElem_mem _)
  rw [Option.some.inj h2] at this
  simpa using this

/-- the first child of a place, how many there are, and all of them -/
def fc (p i : Int) : Int := if i = 0 then 1 else p + 2 + (i - 1) * p
def cn (p i : Int) : Int := if i = 0 then p + 1 else p
def kids (p i : Int) (n : Nat) : List Int := (List.range n).map fun j : Nat => fc p i + (j : Int)
theorem fc_bd (p i : Int) (hp : p = 2 ∨ p = 3 ∨ p = 5 ∨ p = 7) (h0 : 0 ≤ i) (h1 : i ≤ 5000) : i < fc p i ∧ 1 ≤ fc p i ∧ fc p i ≤ 40000 ∧ 2 ≤ cn p i ∧ cn p i ≤ 8 ∧ fc p i + cn p i = p * i + p + 2 := by
  unfold fc cn
  rcases hp with rfl | rfl | rfl | rfl <;> split <;> omega
theorem kids_succ (p i : Int) (n : Nat) : kids p i (n + 1) = kids p i n ++ [fc p i + (n : Int)] := by
  unfold kids; rw [List.range_succ, List.map_append]; rfl
theorem kids_length (p i : Int) (n : Nat) : (kids p i n).length = n := by simp [kids]
theorem kids_rd (p i : Int) (n j : Nat) (h : j < n) : rd (kids p i n) (j : Int) = fc p i + (j : Int) := by
  have := rd_nat (kids p i n) j (by rw [kids_length]; exact h)
  simp only [kids, List.getElem?_map] at this
  rw [List.getElem?_range h] at this
  exact (Option.some.inj this).symm

theorem child_eq (p i : Int) (hp : p = 2 ∨ p = 3 ∨ p = 5 ∨ p = 7) (h0 : 0 ≤ i) (h1 : i ≤ 5000) : spec_l07Child.f p i = some (fc p i, cn p i) := by
  unfold spec_l07Child.f fc cn
  by_cases h : i = 0
  · rw [if_pos h, if_pos h, if_pos h, w64 (by omega) (by omega)]
  · rw [if_neg h, if_neg h, if_neg h, w64 (n := i - 1) (by omega) (by omega), w64 (n := p + 2) (by omega) (by omega)]
    have : 0 ≤ (i - 1) * p ∧ (i - 1) * p ≤ 50000 := by rcases hp with rfl | rfl | rfl | rfl <;> omega
    rw [w64 (n := (i - 1) * p) (by omega) (by omega), w64 (by omega) (by omega)]

theorem firstChild_eq (p i : Int) (hp : p = 2 ∨ p = 3 ∨ p = 5 ∨ p = 7) (h0 : 0 ≤ i) (h1 : i ≤ 5000) : impl_firstChild.f p i = some (fc p i) := by
  unfold impl_firstChild.f fc
  by_cases h : i = 0
  · rw [if_pos h, if_pos h]
  · rw [if_neg h, if_neg h, w64 (n := i - 1) (by omega) (by omega), w64 (n := p + 2) (by omega) (by omega)]
    have : 0 ≤ (i - 1) * p ∧ (i - 1) * p ≤ 50000 := by rcases hp with rfl | rfl | rfl | rfl <;> omega
    rw [w64 (n := (i - 1) * p) (by omega) (by omega), w64 (by omega) (by omega)]

/-- a sum of so many values from a place on -/
def sumC (f : List Int) (a : Int) : Nat → Int → Int
  | 0, s => s
  | n + 1, s => sumC f (a + 1) n (wrap64 (s + rd f a))
theorem place_bd (p i : Int) (hp : p = 2 ∨ p = 3 ∨ p = 5 ∨ p = 7) (h0 : 1 ≤ i) (h1 : i ≤ 5000) : 0 ≤ (if i ≤ p + 1 then 0 else (i - p - 2) / p + 1) ∧ (if i ≤ p + 1 then 0 else (i - p - 2) / p + 1) < i := by
  rcases hp with rfl | rfl | rfl | rfl <;> split <;> omega

theorem all_drop {α : Type} (P : α → Bool) (l : List α) (i : Nat) (h : i < l.length) : (l.drop i).all P = (P (l[i]'h) && (l.drop (i + 1)).all P) := by
  rw [List.drop_eq_getElem_cons h]; rfl
theorem prDef (p : Int) : PM.Pr p = (p = 2 ∨ p = 3 ∨ p = 5 ∨ p = 7) := rfl
theorem tmod_zero_iff (n p : Int) : n.tmod p = 0 ↔ p ∣ n := Int.dvd_iff_tmod_eq_zero.symm

theorem val_eq (p n : Int) (hp : Pr p) (hn : n ≠ 0) (hb : n.natAbs ≤ 9223372036854775807) : ∀ k, 70 ≤ k → spec_l01Val.f k p n = some (vl p n : Int) := by
  have hp2 := hp.pos
  have go : ∀ (v k : Nat) (n s : Int), n ≠ 0 → n.natAbs ≤ 9223372036854775807 → vl p n = v → v < k → 0 ≤ s → s + v ≤ 1000000 → spec_l01Val.l0 k p n s = some (s + v) := by
    intro v
    induction v with
    | zero =>
      intro k n s hn hb hv hk h0 h1
      obtain ⟨k, rfl⟩ : ∃ m, k = m + 1 := ⟨k - 1, by omega⟩
      simp only [spec_l01Val.l0]
      rw [if_neg (by omega), if_neg (by rw [tmod_zero_iff]; exact (vl_zero_iff hp hn).1 hv)]
      simp
    | succ v ih =>
      intro k n s hn hb hv hk h0 h1
      obtain ⟨k, rfl⟩ : ∃ m, k = m + 1 := ⟨k - 1, by omega⟩
      have hd : p ∣ n := Decidable.byContradiction fun h => by have := (vl_zero_iff hp hn).2 h; omega
      obtain ⟨g1, g2, g3⟩ := vl_step hp hn hd
      simp only [spec_l01Val.l0]
      rw [if_neg (by omega), if_pos (by rw [tmod_zero_iff]; exact hd), w64 (n := n.tdiv p) (by omega) (by omega), w64 (n := s + 1) (by omega) (by omega), ih k _ _ g1 (by omega) (by omega) (by omega) (by omega) (by omega)]
      congr 1; omega
  intro k hk
  have hle := vl_le63 hp hn (by omega)
  unfold spec_l01Val.f
  rw [go (vl p n) k n 0 hn hb rfl (by omega) (by omega) (by omega)]
  congr 1; omega

theorem valuation_eq (p n : Int) (hp : Pr p) (hb : n.natAbs ≤ 9223372036854775807) : ∀ k, 70 ≤ k → impl_valuation.f k p n = some (vz p n) := by
  have hp2 := hp.pos
  have go : ∀ (v k : Nat) (n s : Int), n ≠ 0 → n.natAbs ≤ 9223372036854775807 → vl p n = v → v < k → 0 ≤ s → s + v ≤ 1000000 → impl_valuation.l0 k p n s = some (s + v) := by
    intro v
    induction v with
    | zero =>
      intro k n s hn hb hv hk h0 h1
      obtain ⟨k, rfl⟩ : ∃ m, k = m + 1 := ⟨k - 1, by omega⟩
      simp only [impl_valuation.l0]
      rw [if_neg (by omega), if_neg (by rw [tmod_zero_iff]; exact (vl_zero_iff hp hn).1 hv)]
      simp
    | succ v ih =>
      intro k n s hn hb hv hk h0 h1
      obtain ⟨k, rfl⟩ : ∃ m, k = m + 1 := ⟨k - 1, by omega⟩
      have hd : p ∣ n := Decidable.byContradiction fun h => by have := (vl_zero_iff hp hn).2 h; omega
      obtain ⟨g1, g2, g3⟩ := vl_step hp hn hd
      simp only [impl_valuation.l0]
      rw [if_neg (by omega), if_pos (by rw [tmod_zero_iff]; exact hd), w64 (n := n.tdiv p) (by omega) (by omega), w64 (n := s + 1) (by omega) (by omega), ih k _ _ g1 (by omega) (by omega) (by omega) (by omega) (by omega)]
      congr 1; omega
  intro k hk
  unfold impl_valuation.f vz
  by_cases h0 : n = 0
  · rw [if_pos h0, if_pos h0]
  · have hle := vl_le63 hp h0 (by omega)
    rw [if_neg h0, if_neg h0, go (vl p n) k n 0 h0 hb rfl (by omega) (by omega) (by omega)]
    congr 1; omega

theorem pw_bd (p k : Int) (hp : Pr p) (h : k ≤ 20) : 1 ≤ pw p k ∧ pw p k ≤ 79792266297612001 := by
  have h1 := pw_pos2 hp k
  have h2 := pw_le hp h
  have h3 : pw p 20 ≤ 79792266297612001 := by
    rcases hp with rfl | rfl | rfl | rfl <;> decide +kernel
  omega
theorem pw_bd12 (p k : Int) (hp : Pr p) (h : k ≤ 12) : 1 ≤ pw p k ∧ pw p k ≤ 13841287201 := by
  have h1 := pw_pos2 hp k
  have h2 := pw_le hp h
  have h3 : pw p 12 ≤ 13841287201 := by
    rcases hp with rfl | rfl | rfl | rfl <;> decide +kernel
  omega
theorem pw_bd6 (p k : Int) (hp : Pr p) (h : k ≤ 6) : 1 ≤ pw p k ∧ pw p k ≤ 117649 := by
  have h1 := pw_pos2 hp k
  have h2 := pw_le hp h
  have h3 : pw p 6 ≤ 117649 := by
    rcases hp with rfl | rfl | rfl | rfl <;> decide +kernel
  omega
theorem pw_succ (p k : Int) (h : 0 ≤ k) : pw p (k + 1) = pw p k * p := by
  rw [pw_add h (by omega), pw_one]

theorem l01Power_eq (p n : Int) (hp : Pr p) (h : n ≤ 20) (h0 : -9223372036854775808 ≤ n) : ∀ k, 30 ≤ k → spec_l01Power.f k p n = some (pw p n) := by
  have hp2 := hp.pos
  have go : ∀ (d k : Nat) (n out j : Int), n = d → 0 ≤ j → j + d ≤ 20 → d < k → out = pw p j → spec_l01Power.l0 k p n out = some (pw p (j + d)) := by
    intro d
    induction d with
    | zero =>
      intro k n out j hn hj hs hk ho
      obtain ⟨k, rfl⟩ : ∃ m, k = m + 1 := ⟨k - 1, by omega⟩
      simp only [spec_l01Power.l0]
      rw [if_neg (by omega), ho]; simp
    | succ d ih =>
      intro k n out j hn hj hs hk ho
      obtain ⟨k, rfl⟩ : ∃ m, k = m + 1 := ⟨k - 1, by omega⟩
      simp only [spec_l01Power.l0]
      have hb := pw_bd p (j + 1) hp (by omega)
      have hs1 := pw_succ p j hj
      rw [if_pos (by omega), w64 (n := n - 1) (by omega) (by omega), ho, ← hs1, w64 (by omega) (by omega), ih k (n - 1) _ (j + 1) (by omega) (by omega) (by omega) (by omega) rfl]
      congr 2; omega
  intro k hk
  unfold spec_l01Power.f
  by_cases h1 : n ≤ 0
  · obtain ⟨k, rfl⟩ : ∃ m, k = m + 1 := ⟨k - 1, by omega⟩
    simp only [spec_l01Power.l0]
    rw [if_neg (by omega)]
    simp [pw, show n.toNat = 0 by omega]
  · rw [go n.toNat k n 1 0 (by omega) (by omega) (by omega) (by omega) (by simp [pw])]
    congr 2; omega

theorem power_eq (p n : Int) (hp : Pr p) (h : n ≤ 20) : ∀ k, 30 ≤ k → impl_power.f k p n = some (pw p n) := by
  have hp2 := hp.pos
  have go : ∀ (d k : Nat) (n out j : Int), n = j + d → 0 ≤ j → n ≤ 20 → d < k → out = pw p j → impl_power.l0 k p out n j = some (pw p n) := by
    intro d
    induction d with
    | zero =>
      intro k n out j hn hj hs hk ho
      obtain ⟨k, rfl⟩ : ∃ m, k = m + 1 := ⟨k - 1, by omega⟩
      simp only [impl_power.l0]
      rw [if_neg (by omega), ho]
      congr 2; omega
    | succ d ih =>
      intro k n out j hn hj hs hk ho
      obtain ⟨k, rfl⟩ : ∃ m, k = m + 1 := ⟨k - 1, by omega⟩
      simp only [impl_power.l0]
      have hb := pw_bd p (j + 1) hp (by omega)
      have hs1 := pw_succ p j hj
      rw [if_pos (by omega), w64 (n := j + 1) (by omega) (by omega), ho, ← hs1, w64 (by omega) (by omega), ih k n _ (j + 1) (by omega) (by omega) (by omega) (by omega) rfl]
  intro k hk
  unfold impl_power.f
  by_cases h1 : n ≤ 0
  · obtain ⟨k, rfl⟩ : ∃ m, k = m + 1 := ⟨k - 1, by omega⟩
    simp only [impl_power.l0]
    rw [if_neg (by omega)]
    simp [pw, show n.toNat = 0 by omega]
  · rw [go n.toNat k n 1 0 (by omega) (by omega) (by omega) (by omega) (by simp [pw])]

theorem mx_neg (a : Int) (h : a.natAbs ≤ 9223372036854775807) : mx a (wrap64 (-a)) = (a.natAbs : Int) := by
  rw [w64 (by omega) (by omega)]; unfold mx; split <;> omega
theorem gcd_tmod (a b : Int) : Int.gcd b (a.tmod b) = Int.gcd a b := by
  have h := Int.gcd_add_mul_left_right b (a.tmod b) (a.tdiv b)
  rw [Int.tmod_add_mul_tdiv] at h
  rw [Int.gcd_comm a b]; exact h.symm

theorem isE_bd {n d : Int} (h : isE n d) : -1000000 ≤ n ∧ n ≤ 1000000 ∧ 0 ≤ d ∧ d ≤ 1000000 := by unfold isE at h; omega
theorem mul_bd {a b : Int} (h1 : -1000000 ≤ a) (h2 : a ≤ 1000000) (h3 : -1000000 ≤ b) (h4 : b ≤ 1000000) : -1000000000000 ≤ a * b ∧ a * b ≤ 1000000000000 := by
  have h : (a * b).natAbs ≤ 1000000 * 1000000 := by rw [Int.natAbs_mul]; exact Nat.mul_le_mul (by omega) (by omega)
  omega
def crs (n1 d1 n2 d2 : Int) : Int := n1 * d2 - n2 * d1
theorem crs_bd {n1 d1 n2 d2 : Int} (h1 : isE n1 d1) (h2 : isE n2 d2) : (crs n1 d1 n2 d2).natAbs ≤ 2000000000000 := by
  have a := isE_bd h1; have b := isE_bd h2
  have c := mul_bd (a := n1) (b := d2) (by omega) (by omega) (by omega) (by omega)
  have d := mul_bd (a := n2) (b := d1) (by omega) (by omega) (by omega) (by omega)
  unfold crs; omega
/-- two ends are the same if their cross is 0 -/
theorem crs_zero {n1 d1 n2 d2 : Int} (h1 : isE n1 d1) (h2 : isE n2 d2) (h : crs n1 d1 n2 d2 = 0) : n1 = n2 ∧ d1 = d2 := by
  unfold crs at h
  rcases h1 with ⟨a1, a2⟩ | ⟨a1, a2, a3, a4, a5⟩
  · rcases h2 with ⟨b1, b2⟩ | ⟨b1, b2, b3, b4, b5⟩
    · omega
    · subst a1 a2; simp at h; omega
  · rcases h2 with ⟨b1, b2⟩ | ⟨b1, b2, b3, b4, b5⟩
    · subst b1 b2; simp at h; omega
    · have e : n1 * d2 = n2 * d1 := by omega
      have e1 : d1 ∣ d2 := PM.dvd_of_dvd_mul_right_of_gcd_one (a := d1) (b := n1) (c := d2) ⟨n2, by rw [e, Int.mul_comm]⟩ (by rw [Int.gcd_comm]; exact a5)
      have e2 : d2 ∣ d1 := PM.dvd_of_dvd_mul_right_of_gcd_one (a := d2) (b := n2) (c := d1) ⟨n1, by rw [← e, Int.mul_comm]⟩ (by rw [Int.gcd_comm]; exact b5)
      have e3 : d1 = d2 := Int.dvd_antisymm (by omega) (by omega) e1 e2
      subst e3
      exact ⟨Int.eq_of_mul_eq_mul_right (by omega) e, rfl⟩

def gapz (p n1 d1 n2 d2 : Int) : Int := (vl p (crs n1 d1 n2 d2) : Int) - vl p d1 - vl p d2

theorem okSplit (p : Int) (lv top dn : Int) : PM.Ok p ⟨lv, top, dn⟩ ↔ (-6 ≤ lv ∧ lv ≤ 6 ∧ 0 ≤ dn ∧ dn ≤ 6) ∧ ((lv + dn ≤ 0 ∧ top = 0 ∧ dn = 0) ∨ (0 < lv + dn ∧ 0 ≤ top ∧ top < pw p (lv + dn) ∧ (dn = 0 ∨ ¬ p ∣ top))) := by
  unfold PM.Ok; simp only; constructor
  · intro ⟨a, b, c, d, e⟩; exact ⟨⟨a, b, c, d⟩, e⟩
  · intro ⟨⟨a, b, c, d⟩, e⟩; exact ⟨a, b, c, d, e⟩
theorem l01Is_eq (p lv top dn : Int) : ∀ k, 32 ≤ k → spec_l01Is.f k p lv top dn = some (decide (Pr p ∧ PM.Ok p ⟨lv, top, dn⟩)) := by
  intro k hk
  obtain ⟨k, rfl⟩ : ∃ m, k = m + 1 := ⟨k - 1, by omega⟩
  have jt : spec_l01Is.j0 (k + 1) p true lv top dn = some false := by simp [spec_l01Is.j0]
  unfold spec_l01Is.f
  rcases prime_cases p with ⟨h, hp⟩ | ⟨h, hp⟩
  · have hp : Pr p := hp
    rw [h, in_eq, in_eq]
    simp only [Option.bind_some, if_true]
    by_cases h1 : -6 ≤ lv ∧ lv ≤ 6
    · rw [decide_eq_true h1, if_pos rfl]
      by_cases h2 : 0 ≤ dn ∧ dn ≤ 6
      · rw [decide_eq_true h2]
        simp only [Bool.not_true, spec_l01Is.j0]
        rw [if_neg (by simp), w64 (by omega) (by omega)]
        by_cases h3 : lv + dn ≤ 0
        · rw [if_pos h3]
          by_cases h4 : top = 0
          · rw [if_pos h4]
            congr 1; rw [Bool.eq_iff_iff]
            simp only [decide_eq_true_eq, okSplit, beq_iff_eq]
            constructor
            · intro h5; exact ⟨hp, ⟨by omega, Or.inl ⟨h3, h4, h5⟩⟩⟩
            · intro ⟨_, _, h5⟩; omega
          · rw [if_neg h4, decide_eq_false]
            rw [okSplit]; intro ⟨_, _, h5⟩; omega
        · rw [if_neg h3, l01Power_eq p _ hp (by omega) (by omega) k (by omega)]
          have hb := pw_bd12 p (lv + dn) hp (by omega)
          simp only [Option.bind_some]
          rw [in_eq, w64 (by omega) (by omega)]
          simp only [Option.bind_some]
          by_cases h4 : 0 ≤ top ∧ top ≤ pw p (lv + dn) - 1
          · rw [decide_eq_true h4, if_pos rfl]
            by_cases h5 : dn = 0
            · rw [if_pos h5, decide_eq_true]
              rw [okSplit]; exact ⟨hp, by omega, Or.inr ⟨by omega, by omega, by omega, Or.inl h5⟩⟩
            · have hp2 := hp.pos
              rw [if_neg h5, if_neg (by omega)]
              congr 1; rw [Bool.eq_iff_iff]
              simp only [decide_eq_true_eq, okSplit, bne_iff_ne, ne_eq, tmod_zero_iff]
              constructor
              · intro h6; exact ⟨hp, by omega, Or.inr ⟨by omega, by omega, by omega, Or.inr h6⟩⟩
              · intro ⟨_, _, h6⟩ h7
                rcases h6 with h6 | ⟨_, _, _, h6⟩
                · omega
                · rcases h6 with h6 | h6
                  · exact h5 h6
                  · exact h6 h7
          · rw [decide_eq_false h4, if_neg (by simp), decide_eq_false]
            rw [okSplit]; intro ⟨_, _, h5⟩; omega
      · rw [decide_eq_false h2, Bool.not_false, jt, decide_eq_false]
        rw [okSplit]; intro ⟨_, h5, _⟩; omega
    · rw [decide_eq_false h1, if_neg (by simp), jt, decide_eq_false]
      rw [okSplit]; intro ⟨_, h5, _⟩; omega
  · rw [h]
    simp only [Option.bind_some]
    rw [if_neg (by simp), jt, decide_eq_false]
    intro ⟨h1, _⟩; exact hp h1

theorem isLevel_eq (n : Int) : impl_isLevel.f n = some (decide (-6 ≤ n ∧ n ≤ 6)) := by
  unfold impl_isLevel.f
  by_cases h : -6 ≤ n
  · rw [if_pos h]; simp [h]
  · rw [if_neg (by omega)]; simp [h]
theorem IsBall_eq (p lv top dn : Int) : ∀ k, 32 ≤ k → impl_IsBall.f k p lv top dn = some (decide (Pr p ∧ PM.Ok p ⟨lv, top, dn⟩)) := by
  intro k hk
  obtain ⟨k, rfl⟩ : ∃ m, k = m + 1 := ⟨k - 1, by omega⟩
  have jt : impl_IsBall.j0 (k + 1) p true lv top dn = some false := by simp [impl_IsBall.j0]
  unfold impl_IsBall.f
  rw [isPrime_eq]
  rcases prime_cases p with ⟨h, hp⟩ | ⟨h, hp⟩
  · have hp : Pr p := hp
    rw [h, isLevel_eq]
    simp only [Option.bind_some, if_true]
    by_cases h1 : -6 ≤ lv ∧ lv ≤ 6
    · rw [decide_eq_true h1, if_pos rfl]
      by_cases h2 : dn < 0
      · rw [if_pos h2, jt, decide_eq_false]
        rw [okSplit]; intro ⟨_, h5, _⟩; omega
      · rw [if_neg h2]
        by_cases h2' : dn > 6
        · rw [decide_eq_true h2', jt, decide_eq_false]
          rw [okSplit]; intro ⟨_, h5, _⟩; omega
        · rw [decide_eq_false h2']
          simp only [impl_IsBall.j0]
          rw [if_neg (by simp), w64 (by omega) (by omega)]
          by_cases h3 : lv + dn ≤ 0
          · rw [if_pos h3]
            by_cases h4 : top = 0
            · rw [if_pos h4]
              congr 1; rw [Bool.eq_iff_iff]
              simp only [decide_eq_true_eq, okSplit, beq_iff_eq]
              constructor
              · intro h5; exact ⟨hp, ⟨by omega, Or.inl ⟨h3, h4, h5⟩⟩⟩
              · intro ⟨_, _, h5⟩; omega
            · rw [if_neg h4, decide_eq_false]
              rw [okSplit]; intro ⟨_, _, h5⟩; omega
          · rw [if_neg h3]
            have hb := pw_bd12 p (lv + dn) hp (by omega)
            by_cases h4 : top ≥ 0
            · rw [if_pos h4, power_eq p _ hp (by omega) k (by omega)]
              simp only [Option.bind_some]
              by_cases h4' : top < pw p (lv + dn)
              · rw [if_pos h4']
                by_cases h5 : dn = 0
                · rw [if_pos h5, decide_eq_true]
                  rw [okSplit]; exact ⟨hp, by omega, Or.inr ⟨by omega, by omega, by omega, Or.inl h5⟩⟩
                · have hp2 := hp.pos
                  rw [if_neg h5, if_neg (by omega)]
                  congr 1; rw [Bool.eq_iff_iff]
                  simp only [decide_eq_true_eq, okSplit, bne_iff_ne, ne_eq, tmod_zero_iff]
                  constructor
                  · intro h6; exact ⟨hp, by omega, Or.inr ⟨by omega, by omega, by omega, Or.inr h6⟩⟩
                  · intro ⟨_, _, h6⟩ h7
                    rcases h6 with h6 | ⟨_, _, _, h6⟩
                    · omega
                    · rcases h6 with h6 | h6
                      · exact h5 h6
                      · exact h6 h7
              · rw [if_neg h4', decide_eq_false]
                rw [okSplit]; intro ⟨_, _, h5⟩; omega
            · rw [if_neg h4, decide_eq_false]
              rw [okSplit]; intro ⟨_, _, h5⟩; omega
    · rw [decide_eq_false h1, if_neg (by simp), jt, decide_eq_false]
      rw [okSplit]; intro ⟨_, h5, _⟩; omega
  · rw [h]
    simp only [Option.bind_some]
    rw [if_neg (by simp), jt, decide_eq_false]
    intro ⟨h1, _⟩; exact hp h1

def bOk (p : Int) (x : S34) : Bool := decide (PM.Ok p ⟨x.f0, x.f1, x.f2⟩)
theorem rdB (l : List S34) (i : Nat) (h : i < l.length) : rd_T34 l (i : Int) = l[i]'h := by
  unfold rd_T34; simp [List.getD_eq_getElem?_getD, h]

theorem l01Code_eq (p : Int) (l : List S34) (hl : l.length ≤ 1000) : ∃ K, ∀ k, K ≤ k → spec_l01Code.f k p l = some (if Pr p ∧ l.all (bOk p) = true then 0 else 1) := by
  rcases prime_cases p with ⟨h, hp⟩ | ⟨h, hp⟩
  · have hp : Pr p := hp
    have go : ∀ (d i k : Nat), i + d = l.length → d + 34 ≤ k → spec_l01Code.l0 k p l i = some (if (l.drop i).all (bOk p) = true then 0 else 1) := by
      intro d
      induction d with
      | zero =>
        intro i k hi hk
        obtain ⟨k, rfl⟩ : ∃ m, k = m + 1 := ⟨k - 1, by omega⟩
        simp only [spec_l01Code.l0]
        rw [if_neg (by omega), List.drop_eq_nil_of_le (by omega)]; rfl
      | succ d ih =>
        intro i k hi hk
        obtain ⟨k, rfl⟩ : ∃ m, k = m + 1 := ⟨k - 1, by omega⟩
        simp only [spec_l01Code.l0]
        rw [if_pos (by omega), if_pos (by omega), rdB l i (by omega), l01Is_eq _ _ _ _ k (by omega), all_drop (bOk p) l i (by omega), w64 (by omega) (by omega), show ((i : Int) + 1) = ((i + 1 : Nat) : Int) from by omega, ih (i + 1) k (by omega) (by omega)]
        simp only [Option.bind_some]
        show _ = some (if (decide (PM.Ok _ _) && _) = true then _ else _)
        by_cases h : PM.Ok p ⟨(l[i]'(by omega)).f0, (l[i]'(by omega)).f1, (l[i]'(by omega)).f2⟩
        · rw [decide_eq_true h, decide_eq_true ⟨hp, h⟩]; simp
        · rw [decide_eq_false h, decide_eq_false (fun g => h g.2)]; simp
    refine ⟨l.length + 34, fun k hk => ?_⟩
    unfold spec_l01Code.f
    rw [h]
    simp only [Option.bind_some, if_true]
    have := go l.length 0 k (by omega) (by omega)
    rw [show ((0 : Nat) : Int) = 0 from rfl, List.drop_zero] at this
    rw [this]
    by_cases g : l.all (bOk p) = true
    · rw [if_pos g, if_pos ⟨hp, g⟩]
    · rw [if_neg g, if_neg (fun z => g z.2)]
  · refine ⟨0, fun k _ => ?_⟩
    unfold spec_l01Code.f
    rw [h]
    simp only [Option.bind_some]
    rw [if_neg (by simp), if_neg (fun z => hp z.1)]

theorem mul_bd2 {a b : Int} (A B : Int) (h1 : -A ≤ a) (h2 : a ≤ A) (h3 : -B ≤ b) (h4 : b ≤ B) : -(A * B) ≤ a * b ∧ a * b ≤ A * B := by
  have hA : 0 ≤ A := by omega
  have hB : 0 ≤ B := by omega
  have h : (a * b).natAbs ≤ A.natAbs * B.natAbs := by
    rw [Int.natAbs_mul]; exact Nat.mul_le_mul (by omega) (by omega)
  rw [← Int.natAbs_mul] at h
  have : 0 ≤ A * B := Int.mul_nonneg hA hB
  omega
theorem mn_min (a b : Int) : mn a b = min a b := by unfold mn; split <;> omega
theorem mx_max (a b : Int) : mx a b = max a b := by unfold mx; split <;> omega
theorem okb {p lv top dn : Int} (h : PM.Ok p ⟨lv, top, dn⟩) : -6 ≤ lv ∧ lv ≤ 6 ∧ 0 ≤ dn ∧ dn ≤ 6 ∧ 0 ≤ top := by
  unfold PM.Ok at h; simp only at h; omega
theorem ok_top {p lv top dn : Int} (hp : Pr p) (h : PM.Ok p ⟨lv, top, dn⟩) : 0 ≤ top ∧ top ≤ 13841287201 := by
  have hb := okb h
  have := pw_bd12 p (lv + dn) hp (by omega)
  unfold PM.Ok at h; simp only at h; omega
theorem mark_bd12 {p lv top dn : Int} (hp : Pr p) (h : PM.Ok p ⟨lv, top, dn⟩) : 0 ≤ PM.mark p ⟨lv, top, dn⟩ ∧ PM.mark p ⟨lv, top, dn⟩ ≤ 13841287201 := by
  have hb := okb h
  have := PM.mark_bd hp h
  have := pw_bd12 p (lv + 6) hp (by omega)
  simp only at *; omega

theorem mark_eq {p lv top dn : Int} (hp : Pr p) (h : PM.Ok p ⟨lv, top, dn⟩) : ∀ k, 30 ≤ k → impl_mark.f k p lv top dn = some (PM.mark p ⟨lv, top, dn⟩) := by
  intro k hk
  have hb := okb h
  have hm := mark_bd12 hp h
  unfold impl_mark.f
  rw [w64 (n := 6 - dn) (by omega) (by omega), power_eq p _ hp (by omega) k hk]
  simp only [Option.bind_some]
  unfold PM.mark at hm ⊢
  simp only at hm ⊢
  rw [w64 (by omega) (by omega)]

theorem power_eq2 (p n : Int) (hp : Pr p) (h : n ≤ 62) (h1 : pw p n ≤ 4611686018427387904) (h0 : -9223372036854775808 ≤ n) : ∀ k, 70 ≤ k → impl_power.f k p n = some (pw p n) := by
  have hp2 := hp.pos
  have hle : ∀ j : Int, j ≤ n → 1 ≤ pw p j ∧ pw p j ≤ 4611686018427387904 := fun j hj => by
    have := pw_le hp hj; have := pw_pos2 hp j; omega
  have go : ∀ (d k : Nat) (out j : Int), n = j + d → 0 ≤ j → d < k → out = pw p j → impl_power.l0 k p out n j = some (pw p n) := by
    intro d
    induction d with
    | zero =>
      intro k out j hn hj hk ho
      obtain ⟨k, rfl⟩ : ∃ m, k = m + 1 := ⟨k - 1, by omega⟩
      simp only [impl_power.l0]
      rw [if_neg (by omega), ho]
      congr 2; omega
    | succ d ih =>
      intro k out j hn hj hk ho
      obtain ⟨k, rfl⟩ : ∃ m, k = m + 1 := ⟨k - 1, by omega⟩
      simp only [impl_power.l0]
      have hb := hle (j + 1) (by omega)
      have hs1 := pw_succ p j hj
      rw [if_pos (by omega), w64 (n := j + 1) (by omega) (by omega), ho, ← hs1, w64 (by omega) (by omega), ih k _ (j + 1) (by omega) (by omega) (by omega) rfl]
  intro k hk
  unfold impl_power.f
  by_cases h1 : n ≤ 0
  · obtain ⟨k, rfl⟩ : ∃ m, k = m + 1 := ⟨k - 1, by omega⟩
    simp only [impl_power.l0]
    rw [if_neg (by omega)]
    simp [pw, show n.toNat = 0 by omega]
  · rw [go n.toNat k 1 0 (by omega) (by omega) (by omega) (by simp [pw])]

theorem l01Power_eq2 (p n : Int) (hp : Pr p) (h : n ≤ 62) (h1 : pw p n ≤ 4611686018427387904) (h0 : -9223372036854775808 ≤ n) : ∀ k, 70 ≤ k → spec_l01Power.f k p n = some (pw p n) := by
  have hp2 := hp.pos
  have hle : ∀ j : Int, j ≤ n → 1 ≤ pw p j ∧ pw p j ≤ 4611686018427387904 := fun j hj => by
    have := pw_le hp hj; have := pw_pos2 hp j; omega
  have go : ∀ (d k : Nat) (m out j : Int), m = d → n = j + d → 0 ≤ j → d < k → out = pw p j → spec_l01Power.l0 k p m out = some (pw p n) := by
    intro d
    induction d with
    | zero =>
      intro k m out j hm hn hj hk ho
      obtain ⟨k, rfl⟩ : ∃ m, k = m + 1 := ⟨k - 1, by omega⟩
      simp only [spec_l01Power.l0]
      rw [if_neg (by omega), ho]
      congr 2; omega
    | succ d ih =>
      intro k m out j hm hn hj hk ho
      obtain ⟨k, rfl⟩ : ∃ m, k = m + 1 := ⟨k - 1, by omega⟩
      simp only [spec_l01Power.l0]
      have hb := hle (j + 1) (by omega)
      have hs1 := pw_succ p j hj
      rw [if_pos (by omega), w64 (n := m - 1) (by omega) (by omega), ho, ← hs1, w64 (by omega) (by omega), ih k (m - 1) _ (j + 1) (by omega) (by omega) (by omega) (by omega) rfl]
  intro k hk
  unfold spec_l01Power.f
  by_cases h1 : n ≤ 0
  · obtain ⟨k, rfl⟩ : ∃ m, k = m + 1 := ⟨k - 1, by omega⟩
    simp only [spec_l01Power.l0]
    rw [if_neg (by omega)]
    simp [pw, show n.toNat = 0 by omega]
  · rw [go n.toNat k n 1 0 (by omega) (by omega) (by omega) (by omega) (by simp [pw])]

theorem tmod_fix (a m : Int) (hm : 0 < m) : (a.tmod m + m).tmod m = a % m ∧ -m < a.tmod m ∧ a.tmod m < m := by
  have h1 := Int.tmod_lt_of_pos a hm
  have h2 := Int.lt_tmod_of_pos a hm
  have h3 := Int.mul_tdiv_add_tmod a m
  refine ⟨?_, h2, h1⟩
  rw [Int.tmod_eq_emod_of_nonneg (by omega)]
  rw [show a.tmod m + m = a + m * (1 - a.tdiv m) by rw [Int.mul_sub]; omega, Int.add_mul_emod_self_left]
theorem em_mul (a b m : Int) : (a % m * b) % m = a * b % m := by rw [Int.mul_emod, Int.emod_emod, ← Int.mul_emod]
theorem emb (a m : Int) (hm : 0 < m) : 0 ≤ a % m ∧ a % m < m := ⟨Int.emod_nonneg _ (by omega), Int.emod_lt_of_pos _ hm⟩

theorem mod_eq (a m : Int) (hm : 0 < m) (h2 : m ≤ 4611686018427387904) : impl_mod.f a m = some (a % m) := by
  obtain ⟨e, h3, h4⟩ := tmod_fix a m hm
  unfold impl_mod.f
  rw [if_neg (by omega), w64 (by omega) (by omega), e]

theorem l01MulMod_eq (a b m : Int) (hm : 0 < m) (h2 : m ≤ 13841287201) : spec_l01MulMod.f a b m = some (a * b % m) := by
  obtain ⟨e1, h3, h4⟩ := tmod_fix a m hm
  obtain ⟨e2, h5, h6⟩ := tmod_fix b m hm
  obtain ⟨ha0, ha1⟩ := emb a m hm
  obtain ⟨hb0, hb1⟩ := emb b m hm
  unfold spec_l01MulMod.f
  rw [if_neg (by omega), w64 (n := a.tmod m + m) (by omega) (by omega), w64 (n := b.tmod m + m) (by omega) (by omega), e1, e2]
  have em : a * b % m = (a % m) * (b % m) % m := Int.mul_emod a b m
  rw [em]
  generalize a % m = x at *
  generalize b % m = y at *
  rw [Int.tdiv_eq_ediv_of_nonneg hb0, Int.tmod_eq_emod_of_nonneg hb0]
  have m1 := mul_bd2 (a := x) (b := y / 1000000) 13841287201 13842 (by omega) (by omega) (by omega) (by omega)
  have m2 := mul_bd2 (a := x) (b := y % 1000000) 13841287201 1000000 (by omega) (by omega) (by omega) (by omega)
  have n1 : 0 ≤ x * (y / 1000000) := Int.mul_nonneg ha0 (by omega)
  have n2 : 0 ≤ x * (y % 1000000) := Int.mul_nonneg ha0 (by omega)
  rw [w64 (n := y / 1000000) (by omega) (by omega), w64 (n := x * (y / 1000000)) (by omega) (by omega), Int.tmod_eq_emod_of_nonneg n1, w64 (n := x * (y % 1000000)) (by omega) (by omega), Int.tmod_eq_emod_of_nonneg n2]
  obtain ⟨c0, c1⟩ := emb (x * (y / 1000000)) m hm
  obtain ⟨d0, d1⟩ := emb (x * (y % 1000000)) m hm
  rw [w64 (n := x * (y / 1000000) % m * 1000000) (by omega) (by omega), Int.tmod_eq_emod_of_nonneg (a := x * (y / 1000000) % m * 1000000) (by omega)]
  obtain ⟨f0, f1⟩ := emb (x * (y / 1000000) % m * 1000000) m hm
  rw [w64 (by omega) (by omega), Int.tmod_eq_emod_of_nonneg (a := x * (y / 1000000) % m * 1000000 % m + x * (y % 1000000) % m) (by omega)]
  rw [em_mul, ← Int.add_emod]
  congr 2
  have : y = y / 1000000 * 1000000 + y % 1000000 := by omega
  conv => rhs; rw [this]
  rw [Int.mul_add, Int.mul_assoc]

theorem l01InvMod_eq (n m : Int) (hm : 0 < m) (h2 : m ≤ 1099511627776) : ∀ k, m.toNat + 4 ≤ k → spec_l01InvMod.f k n m = some (inv n m) := by
  have go : ∀ (j : Nat) (n a b x y : Int) (k : Nat), Inv n m a b x y → b < j → a ≤ m → b ≤ m → x.natAbs ≤ m → y.natAbs ≤ m → j < k → spec_l01InvMod.l0 k m a b x y = some (invF j a b x y % m) := by
    intro j
    induction j with
    | zero => intro n a b x y k h hb; have := h.b0; omega
    | succ j ih =>
      intro n a b x y k h hb ham hbm hx hy hk
      obtain ⟨k, rfl⟩ : ∃ i, k = i + 1 := ⟨k - 1, by omega⟩
      have a0 := h.a0; have b0 := h.b0
      simp only [spec_l01InvMod.l0, invF]
      by_cases z : b = 0
      · rw [if_pos z, if_pos z]
        obtain ⟨e, h3, h4⟩ := tmod_fix x m hm
        rw [if_neg (by omega), w64 (by omega) (by omega), e]
      · rw [if_neg z, if_neg z]
        have hb1 : 0 < b := by omega
        obtain ⟨i1, i2, i3, i4⟩ := h.bd
        obtain ⟨i5, i6⟩ := i4 hb1
        have hs := h.step z
        obtain ⟨j1, j2, j3, j4⟩ := hs.bd
        have hy' := j2 hb1
        have hq : 0 ≤ a / b := Int.ediv_nonneg a0 b0
        have hq2 := Int.ediv_le_self b a0
        have hr : a - a / b * b = a % b := by rw [Int.emod_def, Int.mul_comm b]
        obtain ⟨r0, r1⟩ := emb a b hb1
        have hay : (a / b * y).natAbs ≤ m := by
          rw [Int.natAbs_mul]
          have : ((a / b).natAbs * y.natAbs : Nat) = a / b * (y.natAbs : Int) := by
            rw [Int.natCast_mul, Int.natAbs_of_nonneg hq]
          omega
        rw [Int.tdiv_eq_ediv_of_nonneg a0, w64 (n := a / b) (by omega) (by omega), w64 (n := a / b * b) (by omega) (by omega), w64 (n := a - a / b * b) (by omega) (by omega), w64 (n := a / b * y) (by omega) (by omega), w64 (n := x - a / b * y) (by omega) (by omega)]
        exact ih n b (a - a / b * b) y (x - a / b * y) k hs (by omega) hbm (by omega) hy (by omega) (by omega)
  intro k hk
  obtain ⟨h0, h1⟩ := emb n m hm
  unfold spec_l01InvMod.f inv
  obtain ⟨e, h3, h4⟩ := tmod_fix n m hm
  rw [if_neg (by omega), w64 (by omega) (by omega), e]
  exact go (m.toNat + 2) (n % m) (n % m) m 1 0 k (Inv.start h0 (by omega)) (by omega) (by omega) (by omega) (by omega) (by omega) (by omega)

theorem vl20 {p n : Int} (hp : Pr p) (h : n ≠ 0) (hb : n.natAbs ≤ 1000000) : vl p n ≤ 19 := by
  have := vl_le hp h (k := 20) (by
    have : (2 : Nat) ^ 20 = 1048576 := by decide
    omega)
  omega
theorem pwvl {p n : Int} (hp : Pr p) (h : n ≠ 0) : 0 < pw p (vl p n) ∧ pw p (vl p n) ≤ (n.natAbs : Int) := by
  refine ⟨pw_pos2 hp _, ?_⟩
  have := Int.le_of_dvd (by omega) (Int.dvd_natAbs.mpr (pw_vl_dvd hp h))
  exact this
theorem un_div {p n : Int} (hp : Pr p) (h : n ≠ 0) : n.tdiv (pw p (vl p n)) = un p n := by
  unfold un; rw [vz_of_ne h, Int.tdiv_eq_ediv_of_dvd (pw_vl_dvd hp h)]
theorem un_bd {p n : Int} (hp : Pr p) (h : n ≠ 0) : (un p n).natAbs ≤ n.natAbs := by
  obtain ⟨e, _⟩ := un_spec hp h
  have h1 := pwvl hp h
  have : n.natAbs = (pw p (vl p n)).natAbs * (un p n).natAbs := by rw [← Int.natAbs_mul, ← e]
  rw [this]
  exact Nat.le_mul_of_pos_left _ (by omega)

def brV (p lv x n d : Int) : Int := if d = 0 ∨ PM.turn p lv x n d < lv then 0 else 1 + (PM.dv p x n d / pw p (lv + 6 + vl p d)) * inv (un p d) p % p
theorem un_mul_pw {p n k : Int} (hp : Pr p) (hn : n ≠ 0) (hk : 0 ≤ k) : un p (pw p k * n) = un p n ∧ (vl p (pw p k * n) : Int) = k + vl p n := by
  have hq := pw_pos2 hp k
  have hv : (vl p (pw p k * n) : Int) = k + vl p n := by
    rw [vl_mul hp (by omega) hn]; have := PM.vl_pw hp k hk; omega
  refine ⟨?_, hv⟩
  unfold un
  rw [vz_of_ne (Int.mul_ne_zero (by omega) hn), hv, vz_of_ne hn, pw_add hk (by omega), Int.mul_ediv_mul_of_pos _ _ hq]
theorem turn_held {p lv x n d : Int} (hd : d ≠ 0) : ¬ PM.turn p lv x n d < lv ↔ (PM.dv p x n d = 0 ∨ lv + 6 + (vl p d : Int) ≤ vl p (PM.dv p x n d)) := by
  unfold PM.turn
  by_cases z : PM.dv p x n d = 0
  · rw [if_pos z]; omega
  · rw [if_neg z]; omega
theorem dv_bd {p x n d : Int} (hp : Pr p) (hx : 0 ≤ x ∧ x ≤ 13841287201) (he : isE n d) : (PM.dv p x n d).natAbs ≤ 15000000000000000 := by
  have hE := isE_bd he
  have h6 := pw_bd6 p 6 hp (by omega)
  have m1 := mul_bd2 (a := n) (b := pw p 6) 1000000 117649 (by omega) (by omega) (by omega) (by omega)
  have m2 := mul_bd2 (a := x) (b := d) 13841287201 1000000 (by omega) (by omega) (by omega) (by omega)
  unfold PM.dv; omega
theorem pwq {p lv d : Int} (hp : Pr p) (hd : d ≠ 0) (hb : d.natAbs ≤ 1000000) (hl : -6 ≤ lv ∧ lv ≤ 6) : 1 ≤ pw p (lv + 6 + vl p d) ∧ pw p (lv + 6 + vl p d) ≤ 13841287201 * 1000000 := by
  have h1 := pwvl hp hd
  have h2 := pw_bd12 p (lv + 6) hp (by omega)
  rw [pw_add (by omega) (by omega)]
  have h3 := mul_bd2 (a := pw p (lv + 6)) (b := pw p (vl p d)) 13841287201 1000000 (by omega) (by omega) (by omega) (by omega)
  have h4 := Int.mul_pos (show 0 < pw p (lv + 6) by omega) h1.1
  omega
theorem held_dvd {p lv x n d : Int} (hp : Pr p) (hd : d ≠ 0) (hl : -6 ≤ lv) (h : ¬ PM.turn p lv x n d < lv) : pw p (lv + 6 + vl p d) ∣ PM.dv p x n d := by
  rcases (turn_held hd).mp h with z | z
  · rw [z]; exact Int.dvd_zero _
  · by_cases z0 : PM.dv p x n d = 0
    · rw [z0]; exact Int.dvd_zero _
    · exact (le_vl_iff' hp z0 (by omega)).mp z

def enc : Option PM.Ball → Int × Int × Int × Bool
  | none => (0, 0, 0, false)
  | some b => (b.lv, b.top, b.dn, true)
def encC (c : Int) : Option PM.Ball → Int × Int × Int × Int
  | none => (0, 0, 0, c)
  | some b => (b.lv, b.top, b.dn, 0)

theorem isLevel_eq' (n : Int) : impl_isLevel.f n = some (decide (PM.inLv n)) := by
  unfold impl_isLevel.f PM.inLv
  congr 1
  by_cases h1 : n ≥ -6 <;> by_cases h2 : n ≤ 6 <;> simp [h1, h2] <;> omega
theorem ofMark_eq {p lv x : Int} (hp : Pr p) : ∀ k, 70 ≤ k → impl_ofMark.f k p lv x = some (enc (if PM.inLv lv then some (PM.mk p lv (x % pw p (lv + 6))) else none)) := by
  intro k hk
  unfold impl_ofMark.f
  rw [isLevel_eq']
  simp only [Option.bind_some]
  by_cases hl : PM.inLv lv
  · have hl' := hl
    unfold PM.inLv at hl'
    have hb := pw_bd12 p (lv + 6) hp (by omega)
    obtain ⟨r0, r1⟩ := emb x (pw p (lv + 6)) (by omega)
    rw [decide_eq_true hl, if_pos rfl, if_pos hl, w64 (n := lv + 6) (by omega) (by omega), power_eq p _ hp (by omega) k (by omega)]
    simp only [Option.bind_some]
    rw [mod_eq x _ (by omega) (by omega)]
    simp only [Option.bind_some]
    generalize x % pw p (lv + 6) = y at *
    rw [valuation_eq p y hp (by omega) k hk]
    simp only [Option.bind_some]
    have hz : 0 ≤ vz p y ∧ vz p y ≤ 1000 := by
      refine ⟨PM.vz_nonneg _ _, ?_⟩
      unfold vz
      by_cases y0 : y = 0
      · rw [if_pos y0]; omega
      · rw [if_neg y0]; have := vl_le63 hp y0 (by omega); omega
    simp only [mx_max]
    rw [w64 (n := 6 - vz p y) (by omega) (by omega), w64 (n := 6 - max (6 - vz p y) 0) (by omega) (by omega), power_eq p _ hp (by omega) k (by omega)]
    simp only [Option.bind_some]
    have hq := pw_bd6 p (6 - max (6 - vz p y) 0) hp (by omega)
    have hd := Int.ediv_le_self (pw p (6 - max (6 - vz p y) 0)) r0
    have hd0 := Int.ediv_nonneg r0 (show 0 ≤ pw p (6 - max (6 - vz p y) 0) by omega)
    rw [if_neg (by omega), Int.tdiv_eq_ediv_of_nonneg r0, w64 (by omega) (by omega)]
    simp only [enc, PM.mk]
  · rw [decide_eq_false hl, if_neg (by simp), if_neg hl]; rfl

theorem l01Of_eq {p n d lv : Int} (hp : Pr p) (hd : d ≠ 0) (hn : n.natAbs ≤ 4611686018427387904) (hdb : d.natAbs ≤ 4611686018427387904) : ∀ k, 13841287300 ≤ k → spec_l01Of.f k p n d lv = some (enc (PM.lOf p n d lv)) := by
  intro k hk
  unfold spec_l01Of.f PM.lOf
  rw [in_eq]
  simp only [Option.bind_some]
  by_cases hl : PM.inLv lv
  · have hl' := hl
    unfold PM.inLv at hl'
    rw [decide_eq_true hl', if_pos rfl, if_neg (show ¬ ¬ PM.inLv lv from fun z => z hl)]
    by_cases z : n = 0
    · rw [if_pos z, if_pos z]; rfl
    · have v1 := vl_le63 hp z (by omega)
      have v2 := vl_le63 hp hd (by omega)
      have v3 := vl_le hp z (k := 63) (by
        have : (2 : Nat) ^ 63 = 9223372036854775808 := by decide
        omega)
      have v4 := vl_le hp hd (k := 63) (by
        have : (2 : Nat) ^ 63 = 9223372036854775808 := by decide
        omega)
      rw [if_neg z, if_neg z, val_eq p n hp z (by omega) k (by omega), val_eq p d hp hd (by omega) k (by omega), vz_of_ne z, vz_of_ne hd]
      simp only [Option.bind_some, mx_max]
      rw [w64 (n := (vl p n : Int) - vl p d) (by omega) (by omega), w64 (n := (vl p d : Int) - vl p n) (by omega) (by omega)]
      by_cases c : lv ≤ (vl p n : Int) - vl p d
      · rw [if_pos c, if_pos c]; rfl
      · rw [if_neg c, if_neg c]
        by_cases e : max ((vl p d : Int) - vl p n) 0 > 6
        · rw [if_pos e, if_pos e]; rfl
        · rw [if_neg e, if_neg (show ¬ 6 < max ((vl p d : Int) - vl p n) 0 from e)]
          have hb := pw_bd12 p (lv + max ((vl p d : Int) - vl p n) 0) hp (by omega)
          have p1 := pwvl hp z
          have p2 := pwvl hp hd
          have u1 := un_bd hp z
          have u2 := un_bd hp hd
          rw [w64 (n := lv + max ((vl p d : Int) - vl p n) 0) (by omega) (by omega), l01Power_eq p _ hp (by omega) (by omega) k (by omega), l01Power_eq2 p (vl p n) hp (by omega) (by omega) (by omega) k (by omega), l01Power_eq2 p (vl p d) hp (by omega) (by omega) (by omega) k (by omega)]
          simp only [Option.bind_some]
          rw [if_neg (by omega), if_neg (by omega), un_div hp z, un_div hp hd, w64 (n := un p n) (by omega) (by omega), w64 (n := un p d) (by omega) (by omega), l01InvMod_eq _ _ (by omega) (by omega) k (by omega)]
          simp only [Option.bind_some]
          rw [l01MulMod_eq _ _ _ (by omega) (by omega), l01Power_eq p (max ((vl p n : Int) - vl p d) 0) hp (by omega) (by omega) k (by omega)]
          simp only [Option.bind_some]
          rw [l01MulMod_eq _ _ _ (by omega) (by omega)]
          rfl
  · rw [decide_eq_false (show ¬ (-6 ≤ lv ∧ lv ≤ 6) from hl), if_neg (by simp), if_pos hl]; rfl
theorem lOf_eq_ballAt {p n d lv : Int} (hp : Pr p) (hd : d ≠ 0) : PM.lOf p n d lv = PM.ballAt p n d lv := (PM.ballAt_eq_lOf hp hd).symm

theorem up_eq {p lv top dn : Int} (hp : Pr p) (h : PM.Ok p ⟨lv, top, dn⟩) : ∀ k, 70 ≤ k → impl_parent.f k p lv top dn = some (enc (PM.about p (lv - 1) (PM.mark p ⟨lv, top, dn⟩))) := by
  intro k hk
  have hb := okb h
  unfold impl_parent.f
  rw [mark_eq hp h k (by omega)]
  simp only [Option.bind_some]
  rw [w64 (n := lv - 1) (by omega) (by omega), ofMark_eq hp k hk]
  rfl

theorem down_eq {p lv top dn a : Int} (hp : Pr p) (h : PM.Ok p ⟨lv, top, dn⟩) (ha : 0 ≤ a ∧ a ≤ 7) : ∀ k, 70 ≤ k → impl_child.f k p lv top dn a = some (enc (PM.about p (lv + 1) (PM.mark p ⟨lv, top, dn⟩ + a * pw p (lv + 6)))) := by
  intro k hk
  have hb := okb h
  have hm := mark_bd12 hp h
  have hq := pw_bd12 p (lv + 6) hp (by omega)
  have m1 := mul_bd2 (a := a) (b := pw p (lv + 6)) 7 13841287201 (by omega) (by omega) (by omega) (by omega)
  unfold impl_child.f
  rw [mark_eq hp h k (by omega), w64 (n := lv + 6) (by omega) (by omega), power_eq p _ hp (by omega) k (by omega)]
  simp only [Option.bind_some]
  rw [w64 (n := lv + 1) (by omega) (by omega), w64 (n := a * pw p (lv + 6)) (by omega) (by omega), w64 (by omega) (by omega), ofMark_eq hp k hk]
  rfl

theorem specUp_eq {p lv top dn : Int} (hp : Pr p) (h : PM.Ok p ⟨lv, top, dn⟩) : ∀ k, 13841287300 ≤ k → spec_l01Parent.f k p lv top dn = some (enc (PM.about p (lv - 1) (PM.mark p ⟨lv, top, dn⟩))) := by
  intro k hk
  have hb := okb h
  have ht := ok_top hp h
  have h6 := pw_bd6 p dn hp (by omega)
  unfold spec_l01Parent.f
  rw [l01Power_eq p dn hp (by omega) (by omega) k (by omega)]
  simp only [Option.bind_some]
  rw [w64 (n := lv - 1) (by omega) (by omega), l01Of_eq hp (by omega) (by omega) (by omega) k hk, lOf_eq_ballAt hp (by omega), show PM.ballAt p top (pw p dn) (lv - 1) = _ from PM.parent_is hp h (lv - 1)]
  rfl

theorem about_out {p l x : Int} (h : ¬ PM.inLv l) : PM.about p l x = none := by unfold PM.about; rw [if_neg h]
theorem specDown_eq {p lv top dn a : Int} (hp : Pr p) (h : PM.Ok p ⟨lv, top, dn⟩) (ha : 0 ≤ a ∧ a ≤ 7) : ∀ k, 13841287300 ≤ k → spec_l01Child.f k p lv top dn a = some (enc (PM.about p (lv + 1) (PM.mark p ⟨lv, top, dn⟩ + a * pw p (lv + 6)))) := by
  intro k hk
  have hb := okb h
  have ht := ok_top hp h
  have h6 := pw_bd6 p dn hp (by omega)
  unfold spec_l01Child.f
  by_cases c : lv = 6
  · rw [if_pos c, about_out (by unfold PM.inLv; omega)]; rfl
  · rw [if_neg c, l01Power_eq p dn hp (by omega) (by omega) k (by omega)]
    simp only [Option.bind_some]
    by_cases g : lv ≥ 0
    · have hl := pw_bd6 p lv hp (by omega)
      have m1 := mul_bd2 (a := a) (b := pw p dn) 7 117649 (by omega) (by omega) (by omega) (by omega)
      have m2 := mul_bd2 (a := a * pw p dn) (b := pw p lv) 823543 117649 (by omega) (by omega) (by omega) (by omega)
      rw [if_pos g, l01Power_eq p lv hp (by omega) (by omega) k (by omega)]
      simp only [Option.bind_some]
      rw [w64 (n := a * pw p dn) (by omega) (by omega), w64 (n := a * pw p dn * pw p lv) (by omega) (by omega), w64 (n := top + a * pw p dn * pw p lv) (by omega) (by omega), w64 (n := lv + 1) (by omega) (by omega)]
      rw [l01Of_eq hp (by omega) (by omega) (by omega) k hk, lOf_eq_ballAt hp (by omega), show PM.ballAt p (top + a * pw p dn * pw p lv) (pw p dn) (lv + 1) = _ from PM.child_hi hp h a (lv + 1) g]
      rfl
    · have hl := pw_bd6 p (-lv) hp (by omega)
      rw [if_neg g, w64 (n := -lv) (by omega) (by omega), l01Power_eq p (-lv) hp (by omega) (by omega) k (by omega)]
      simp only [Option.bind_some]
      rw [if_neg (by omega), if_neg (by omega)]
      obtain ⟨e, f, d, hd, he, hf, e0, e1, f0, f1⟩ : ∃ e f d : Int, d = mx (pw p dn) (pw p (-lv)) ∧ d = pw p dn * e ∧ d = pw p (-lv) * f ∧ 0 ≤ e ∧ e ≤ 117649 ∧ 0 ≤ f ∧ f ≤ 117649 := by
        rw [mx_max]
        rcases Int.le_total dn (-lv) with y | y
        · have := pw_le hp y
          obtain ⟨z, hz⟩ := pw_dvd (p := p) y
          have z0 : 0 ≤ z := by
            rcases Int.lt_or_le z 0 with w | w
            · have := Int.mul_neg_of_pos_of_neg (show 0 < pw p dn by omega) w; omega
            · exact w
          have z1 : z ≤ pw p dn * z := by
            have := Int.mul_le_mul_of_nonneg_right (show 1 ≤ pw p dn by omega) z0; omega
          exact ⟨z, 1, pw p (-lv), by omega, hz, by omega, z0, by omega, by omega, by omega⟩
        · have := pw_le hp y
          obtain ⟨z, hz⟩ := pw_dvd (p := p) y
          have z0 : 0 ≤ z := by
            rcases Int.lt_or_le z 0 with w | w
            · have := Int.mul_neg_of_pos_of_neg (show 0 < pw p (-lv) by omega) w; omega
            · exact w
          have z1 : z ≤ pw p (-lv) * z := by
            have := Int.mul_le_mul_of_nonneg_right (show 1 ≤ pw p (-lv) by omega) z0; omega
          exact ⟨1, z, pw p dn, by omega, by omega, hz, by omega, by omega, z0, by omega⟩
      rw [← hd]
      have hdp : 0 < d ∧ d ≤ 117649 := by rw [hd, mx_max]; omega
      have q1 : d.tdiv (pw p dn) = e := by rw [he]; exact Int.mul_tdiv_cancel_left _ (by omega)
      have q2 : d.tdiv (pw p (-lv)) = f := by rw [hf]; exact Int.mul_tdiv_cancel_left _ (by omega)
      have m1 := mul_bd2 (a := top) (b := e) 13841287201 117649 (by omega) (by omega) (by omega) (by omega)
      have m2 := mul_bd2 (a := a) (b := f) 7 117649 (by omega) (by omega) (by omega) (by omega)
      rw [q1, q2, w64 (n := e) (by omega) (by omega), w64 (n := f) (by omega) (by omega), w64 (n := top * e) (by omega) (by omega), w64 (n := a * f) (by omega) (by omega), w64 (n := top * e + a * f) (by omega) (by omega), w64 (n := lv + 1) (by omega) (by omega)]
      rw [l01Of_eq hp (by omega) (by omega) (by omega) k hk, lOf_eq_ballAt hp (by omega), show PM.ballAt p (top * e + a * f) d (lv + 1) = _ from PM.child_lo hp h a (lv + 1) d e f (show -6 ≤ lv by omega) (show lv < 0 by omega) he hf (by omega)]
      rfl

theorem about_ok {p l x : Int} {b : PM.Ball} (hp : Pr p) (h : PM.about p l x = some b) : PM.Ok p b ∧ b.lv = l ∧ PM.inLv l ∧ PM.mark p b = x % pw p (l + 6) := by
  unfold PM.about at h
  by_cases hl : PM.inLv l
  · rw [if_pos hl] at h
    obtain rfl := Option.some.inj h
    have hl' := hl
    unfold PM.inLv at hl'
    have hq := pw_pos2 hp (l + 6)
    obtain ⟨o1, o2⟩ := PM.ok_mk hp hl'.1 hl'.2 (Int.emod_nonneg x (b := pw p (l + 6)) (by omega)) (Int.emod_lt_of_pos x hq)
    exact ⟨o1, rfl, hl, o2⟩
  · rw [if_neg hl] at h; cases h
theorem brV_bd {p lv x n d : Int} (hp : Pr p) : 0 ≤ brV p lv x n d ∧ brV p lv x n d ≤ p := by
  have hpp := hp.pos
  unfold brV
  by_cases c : d = 0 ∨ PM.turn p lv x n d < lv
  · rw [if_pos c]; omega
  · rw [if_neg c]
    obtain ⟨a, b⟩ := emb (PM.dv p x n d / pw p (lv + 6 + vl p d) * inv (un p d) p) p (by omega)
    omega
/-- the next ball by a number: 0 for the parent -/
def nb (p : Int) (b : PM.Ball) (k : Int) : Option PM.Ball := if k = 0 then PM.about p (b.lv - 1) (PM.mark p b) else PM.about p (b.lv + 1) (PM.mark p b + (k - 1) * pw p (b.lv + 6))
theorem nb_ok {p k : Int} {b c : PM.Ball} (hp : Pr p) (h : nb p b k = some c) : PM.Ok p c := by
  unfold nb at h
  by_cases z : k = 0
  · rw [if_pos z] at h; exact (about_ok hp h).1
  · rw [if_neg z] at h; exact (about_ok hp h).1

theorem neighbour_eq {p lv top dn i : Int} (hp : Pr p) (h : PM.Ok p ⟨lv, top, dn⟩) (hi : 0 ≤ i ∧ i ≤ 8) : ∀ k, 70 ≤ k → impl_neighbour.f k p lv top dn i = some (enc (nb p ⟨lv, top, dn⟩ i)) := by
  intro k hk
  unfold impl_neighbour.f nb
  by_cases z : i = 0
  · rw [if_pos z, if_pos z, up_eq hp h k hk]; rfl
  · rw [if_neg z, if_neg z, w64 (n := i - 1) (by omega) (by omega), down_eq hp h (by omega) k hk]; rfl

theorem joinLevel_eq {p l1 t1 d1 l2 t2 d2 : Int} (hp : Pr p) (hb : PM.Ok p ⟨l1, t1, d1⟩) (hc : PM.Ok p ⟨l2, t2, d2⟩) : ∀ k, 100 ≤ k → impl_joinLevel.f k p l1 t1 d1 l2 t2 d2 = some (PM.jl p ⟨l1, t1, d1⟩ ⟨l2, t2, d2⟩) := by
  intro k hk
  obtain ⟨m0, m1⟩ := PM.mark_bd hp hb
  obtain ⟨m2, m3⟩ := PM.mark_bd hp hc
  have b1 := pw_bd12 p (l1 + 6) hp (by have := hb.2.1; simp only at this; omega)
  have b2 := pw_bd12 p (l2 + 6) hp (by have := hc.2.1; simp only at this; omega)
  simp only at m1 m3
  unfold impl_joinLevel.f
  rw [mark_eq hp hb k (by omega), mark_eq hp hc k (by omega)]
  simp only [Option.bind_some]
  rw [w64 (n := PM.mark p ⟨l1, t1, d1⟩ - PM.mark p ⟨l2, t2, d2⟩) (by omega) (by omega), valuation_eq p _ hp (by omega) k (by omega)]
  simp only [Option.bind_some, mn_min]
  have hz := PM.vz_nonneg p (PM.mark p ⟨l1, t1, d1⟩ - PM.mark p ⟨l2, t2, d2⟩)
  have hz2 : vz p (PM.mark p ⟨l1, t1, d1⟩ - PM.mark p ⟨l2, t2, d2⟩) ≤ 1000 := by
    unfold vz
    by_cases z : PM.mark p ⟨l1, t1, d1⟩ - PM.mark p ⟨l2, t2, d2⟩ = 0
    · rw [if_pos z]; omega
    · rw [if_neg z]; have := vl_le63 hp z (by omega); omega
  rw [w64 (by omega) (by omega)]
  rfl
theorem distance_fin {p : Int} {b c : PM.Ball} (hb : PM.Ok p b) (hc : PM.Ok p c) : wrap64 (wrap64 (b.lv + c.lv) - wrap64 (2 * PM.jl p b c)) = PM.dist p b c := by
  obtain ⟨j1, j2, j3⟩ := PM.jl_bd p hb hc
  have h1 := hb.2.1
  have h2 := hc.2.1
  have h3 := hb.1
  have h4 := hc.1
  rw [w64 (n := b.lv + c.lv) (by omega) (by omega), w64 (n := 2 * PM.jl p b c) (by omega) (by omega), w64 (by omega) (by omega)]
  rfl

theorem distance_eq {p l1 t1 d1 l2 t2 d2 : Int} (hp : Pr p) (hb : PM.Ok p ⟨l1, t1, d1⟩) (hc : PM.Ok p ⟨l2, t2, d2⟩) : ∀ k, 100 ≤ k → impl_distance.f k p l1 t1 d1 l2 t2 d2 = some (PM.dist p ⟨l1, t1, d1⟩ ⟨l2, t2, d2⟩) := by
  intro k hk
  unfold impl_distance.f
  rw [joinLevel_eq hp hb hc k hk]
  simp only [Option.bind_some]
  exact congrArg some (distance_fin hb hc)

set_option maxHeartbeats 1600000 in
theorem l02Join_eq {p l1 t1 d1 l2 t2 d2 : Int} (hp : Pr p) (hb : PM.Ok p ⟨l1, t1, d1⟩) (hc : PM.Ok p ⟨l2, t2, d2⟩) : ∀ k, 100 ≤ k → spec_l02Join.f k p l1 t1 d1 l2 t2 d2 = some (PM.jl p ⟨l1, t1, d1⟩ ⟨l2, t2, d2⟩) := by
  intro k hk
  rw [PM.jl_ref hp hb hc]
  have tb : ∀ {l t d m : Int}, PM.Ok p ⟨l, t, d⟩ → d ≤ m → m ≤ 6 → 0 ≤ t * pw p (m - d) ∧ t * pw p (m - d) ≤ 13841287201 := by
    intro l t d m ho h1 h2
    obtain ⟨o1, o2, o3, o4, o5⟩ := ho
    simp only at o1 o2 o3 o4 o5
    have hq := pw_bd12 p (m - d) hp (by omega)
    rcases o5 with ⟨_, z, _⟩ | ⟨g, h0, h1', _⟩
    · rw [z]; simp
    · refine ⟨Int.mul_nonneg h0 (by omega), ?_⟩
      have h2 : t * pw p (m - d) ≤ pw p (l + d) * pw p (m - d) := Int.mul_le_mul_of_nonneg_right (by omega) (by omega)
      rw [← PM.pw_add (by omega) (by omega), show l + d + (m - d) = l + m by omega] at h2
      have := pw_bd12 p (l + m) hp (by omega)
      omega
  have b3 := hb.2.2.1
  have b4 := hb.2.2.2.1
  have c3 := hc.2.2.1
  have c4 := hc.2.2.2.1
  simp only at b3 b4 c3 c4 ⊢
  have h1 := tb hb (m := max d1 d2) (by omega) (by omega)
  have h2 := tb hc (m := max d1 d2) (by omega) (by omega)
  clear tb
  unfold spec_l02Join.f spec_l02Valuation.f
  simp only [mx_max, mn_min]
  obtain ⟨M, hM⟩ : ∃ M, M = max d1 d2 := ⟨_, rfl⟩
  rw [← hM] at h1 h2 ⊢
  rw [w64 (n := M - d1) (by omega) (by omega), w64 (n := M - d2) (by omega) (by omega), l01Power_eq p (M - d1) hp (by omega) (by omega) k (by omega), l01Power_eq p (M - d2) hp (by omega) (by omega) k (by omega)]
  simp only [Option.bind_some]
  rw [w64 (n := t1 * pw p (M - d1)) (by omega) (by omega), w64 (n := t2 * pw p (M - d2)) (by omega) (by omega), w64 (n := t1 * pw p (M - d1) - t2 * pw p (M - d2)) (by omega) (by omega)]
  have hD : (t1 * pw p (M - d1) - t2 * pw p (M - d2)).natAbs ≤ 9223372036854775807 := by omega
  generalize t1 * pw p (M - d1) - t2 * pw p (M - d2) = D at *
  by_cases z : D = 0
  · rw [if_pos z, if_pos z]
    simp only [Option.bind_some]
    rw [if_neg (by simp)]
  · rw [if_neg z, if_neg z, val_eq p D hp z hD k (by omega)]
    have hv := vl_le63 hp z (by omega)
    simp only [Option.bind_some, if_true]
    rw [w64 (by omega) (by omega)]

theorem l02Distance_eq {p l1 t1 d1 l2 t2 d2 : Int} (hp : Pr p) (hb : PM.Ok p ⟨l1, t1, d1⟩) (hc : PM.Ok p ⟨l2, t2, d2⟩) : ∀ k, 100 ≤ k → spec_l02Distance.f k p l1 t1 d1 l2 t2 d2 = some (PM.dist p ⟨l1, t1, d1⟩ ⟨l2, t2, d2⟩) := by
  intro k hk
  unfold spec_l02Distance.f
  rw [l02Join_eq hp hb hc k hk]
  simp only [Option.bind_some]
  exact congrArg some (distance_fin hb hc)

theorem beqB (y c : PM.Ball) : (y.lv == c.lv && (y.top == c.top && (y.dn == c.dn))) = decide (y = c) := by
  obtain ⟨a, b, d⟩ := y
  obtain ⟨e, f, g⟩ := c
  rw [Bool.eq_iff_iff]; simp
theorem bneB (y c : PM.Ball) : (!(y.lv == c.lv) || (!(y.top == c.top) || (!(y.dn == c.dn)))) = !(decide (y = c)) := by
  rw [← beqB]; simp
theorem nb_nbr (p : Int) (b : PM.Ball) (k : Int) : nb p b k = PM.nbr p b k := rfl
def enS (b : PM.Ball) : S34 := ⟨b.lv, b.top, b.dn⟩

theorem above_eq {p n : Int} {b : PM.Ball} (hp : Pr p) (h : PM.Ok p b) (h0 : -6 ≤ n) (h1 : n ≤ 6) : ∀ k, 70 ≤ k → impl_above.f k p b.lv b.top b.dn n = some ((PM.ab p n b).lv, (PM.ab p n b).top, (PM.ab p n b).dn) := by
  intro k hk
  unfold impl_above.f
  rw [mark_eq hp h k (by omega)]
  simp only [Option.bind_some]
  rw [ofMark_eq hp k hk, if_pos (show PM.inLv n by unfold PM.inLv; omega)]
  rfl

theorem toward_eq {p : Int} {b c : PM.Ball} (hp : Pr p) (h : PM.Ok p b) (hc : PM.Ok p c) (h1 : PM.dist p b c = 1) : ∀ k, 80 ≤ k → impl_toward.f k p b.lv b.top b.dn c.lv c.top c.dn = some (PM.tow p b c) := by
  have hpl := hp.le
  have hpp := hp.pos
  obtain ⟨t0, t1⟩ := PM.tow_bd hp b c
  have go : ∀ (d : Nat) (i : Int) (k : Nat), 1 ≤ i → i + d = p + 1 → (PM.tow p b c = 0 ∨ i ≤ PM.tow p b c) → d + 71 ≤ k → impl_toward.l0 k p i b.lv b.top b.dn c.lv c.top c.dn = some (PM.tow p b c) := by
    intro d
    induction d with
    | zero =>
      intro i k hi hd ht hk
      obtain ⟨k, rfl⟩ : ∃ m, k = m + 1 := ⟨k - 1, by omega⟩
      simp only [impl_toward.l0]
      rw [if_neg (by omega)]
      congr 1; omega
    | succ d ih =>
      intro i k hi hd ht hk
      obtain ⟨k, rfl⟩ : ∃ m, k = m + 1 := ⟨k - 1, by omega⟩
      simp only [impl_toward.l0]
      rw [if_pos (by omega), neighbour_eq hp h (by omega) k (by omega), nb_nbr, w64 (n := i + 1) (by omega) (by omega)]
      simp only [Option.bind_some]
      have e := PM.nbr_iff hp h hc h1 (k := i) (by omega) (by omega)
      have hn : PM.nbr p b i ≠ some c → PM.tow p b c = 0 ∨ i + 1 ≤ PM.tow p b c := by
        intro z
        have : ¬ (i = PM.tow p b c) := fun q => z (e.2 q)
        omega
      cases hy : PM.nbr p b i with
      | none =>
        rw [if_neg (by simp [enc])]
        exact ih _ _ (by omega) (by omega) (hn (by rw [hy]; simp)) (by omega)
      | some y =>
        rw [if_pos (by simp [enc])]
        by_cases q : y = c
        · have : ((enc (some y)).1 == c.lv && ((enc (some y)).2.1 == c.top && ((enc (some y)).2.2.1 == c.dn))) = true := by
            show (y.lv == c.lv && (y.top == c.top && (y.dn == c.dn))) = true
            rw [beqB, decide_eq_true q]
          rw [if_pos this, ← e.1 (by rw [hy, q])]
        · have : ((enc (some y)).1 == c.lv && ((enc (some y)).2.1 == c.top && ((enc (some y)).2.2.1 == c.dn))) = false := by
            show (y.lv == c.lv && (y.top == c.top && (y.dn == c.dn))) = false
            rw [beqB, decide_eq_false q]
          rw [if_neg (by rw [this]; simp)]
          exact ih _ _ (by omega) (by omega) (hn (by rw [hy]; simpa using q)) (by omega)
  intro k hk
  unfold impl_toward.f
  exact go p.toNat 1 k (by omega) (by omega) (by omega) (by omega)

def tailD (p : Int) (c : PM.Ball) : Nat → Int → List PM.Ball
  | 0, _ => []
  | d + 1, m => PM.path p c d (PM.ab p m c)
theorem tailD_succ {p : Int} (hp : Pr p) {c : PM.Ball} (hc : PM.Ok p c) (d : Nat) (m : Int) (h0 : -6 ≤ m) (h1 : m + d = c.lv) : tailD p c (d + 1) m = PM.ab p m c :: tailD p c d (m + 1) := by
  cases d with
  | zero => rfl
  | succ d => exact PM.path_down hp hc d h0 (by omega)
theorem geo_down {p : Int} (hp : Pr p) {c : PM.Ball} (hc : PM.Ok p c) : ∀ (d : Nat) (m : Int) (acc : List S34) (k : Nat), -6 ≤ m → m + d = c.lv + 1 → acc.length + d ≤ 1000 → d + 75 ≤ k → impl_geodesic.l1 k p acc m c.lv c.top c.dn = some (acc ++ (tailD p c d m).map enS) := by
  have c2 := hc.2.1
  intro d
  induction d with
  | zero =>
    intro m acc k h0 h1 h2 hk
    obtain ⟨k, rfl⟩ : ∃ m, k = m + 1 := ⟨k - 1, by omega⟩
    simp only [impl_geodesic.l1]
    rw [if_neg (by omega)]
    simp [tailD]
  | succ d ih =>
    intro m acc k h0 h1 h2 hk
    obtain ⟨k, rfl⟩ : ∃ m, k = m + 1 := ⟨k - 1, by omega⟩
    simp only [impl_geodesic.l1]
    rw [if_pos (by omega), above_eq hp hc h0 (by omega) k (by omega)]
    simp only [Option.bind_some]
    rw [if_pos (by omega), w64 (n := m + 1) (by omega) (by omega), ih (m + 1) _ k (by omega) (by omega) (by simp; omega) (by omega), tailD_succ hp hc d m h0 (by omega), List.append_assoc]
    rfl
theorem geo_up {p : Int} (hp : Pr p) {b c : PM.Ball} (hb : PM.Ok p b) (hc : PM.Ok p c) (e : Nat) (he : (e : Int) = c.lv - PM.jl p b c) : ∀ (d : Nat) (n : Int) (acc : List S34) (k : Nat), n ≤ b.lv → n = PM.jl p b c + d → acc.length + d + e ≤ 900 → d + e + 80 ≤ k → impl_geodesic.l0 k p (PM.jl p b c) acc n b.lv b.top b.dn c.lv c.top c.dn = some (acc ++ (PM.path p c (d + e) (PM.ab p n b)).map enS) := by
  have b2 := hb.2.1
  have c2 := hc.2.1
  have bd := PM.jl_bd p hb hc
  intro d
  induction d with
  | zero =>
    intro n acc k h0 h1 h2 hk
    obtain ⟨k, rfl⟩ : ∃ m, k = m + 1 := ⟨k - 1, by omega⟩
    simp only [impl_geodesic.l0]
    rw [if_pos (by omega), above_eq hp hb (by omega) (by omega) k (by omega)]
    simp only [Option.bind_some]
    rw [if_pos (by omega), w64 (n := n - 1) (by omega) (by omega)]
    obtain ⟨k, rfl⟩ : ∃ m, k = m + 1 := ⟨k - 1, by omega⟩
    simp only [impl_geodesic.l0]
    rw [if_neg (by omega), w64 (n := PM.jl p b c + 1) (by omega) (by omega), geo_down hp hc e _ _ k (by omega) (by omega) (by simp; omega) (by omega), List.append_assoc]
    have hn : n = PM.jl p b c := by omega
    have := tailD_succ hp hc e (PM.jl p b c) (by omega) (by omega)
    rw [show 0 + e = e by omega, hn]
    show some (acc ++ (enS (PM.ab p (PM.jl p b c) b) :: _)) = _
    rw [PM.ab_join hp hb hc, show PM.path p c e (PM.ab p (PM.jl p b c) c) = tailD p c (e + 1) (PM.jl p b c) from rfl, this]
    rfl
  | succ d ih =>
    intro n acc k h0 h1 h2 hk
    obtain ⟨k, rfl⟩ : ∃ m, k = m + 1 := ⟨k - 1, by omega⟩
    simp only [impl_geodesic.l0]
    rw [if_pos (by omega), above_eq hp hb (by omega) (by omega) k (by omega)]
    simp only [Option.bind_some]
    rw [if_pos (by omega), w64 (n := n - 1) (by omega) (by omega), ih (n - 1) _ k (by omega) (by omega) (by simp; omega) (by omega), List.append_assoc, show d + 1 + e = (d + e) + 1 by omega, PM.path_up hp hb hc (d + e) (by omega) h0]
    rfl
theorem geodesic_eq {p : Int} {b c : PM.Ball} (hp : Pr p) (hb : PM.Ok p b) (hc : PM.Ok p c) : ∀ k, 200 ≤ k → impl_geodesic.f k p b.lv b.top b.dn c.lv c.top c.dn = some ((PM.path p c (PM.dist p b c).toNat b).map enS) := by
  intro k hk
  have b2 := hb.2.1
  have c2 := hc.2.1
  have bd := PM.jl_bd p hb hc
  unfold impl_geodesic.f
  rw [joinLevel_eq hp hb hc k (by omega)]
  simp only [Option.bind_some]
  have := geo_up hp hb hc (c.lv - PM.jl p b c).toNat (by omega) (b.lv - PM.jl p b c).toNat b.lv [] k (by omega) (by omega) (by simp; omega) (by omega)
  rw [PM.ab_self hp hb, show (b.lv - PM.jl p b c).toNat + (c.lv - PM.jl p b c).toNat = (PM.dist p b c).toNat by unfold PM.dist; omega] at this
  exact this

def num (t : Option Int) (i r : Int) : Int := match t with
  | none => i + 1 + r
  | some t => if i + 1 ≤ t ∧ t ≤ i + 1 + r then i + 1 + r + 1 else i + 1 + r
theorem num_ge (t : Option Int) (i r : Int) : i + 1 + r ≤ num t i r := by
  unfold num; cases t with
  | none => simp
  | some t => simp only; split <;> omega
/-- what is told of the ball before -/
def Bef (p : Int) (b bf : PM.Ball) (sm : Bool) (t : Option Int) : Prop := (sm = false ∧ t = none) ∨ (sm = true ∧ PM.Ok p bf ∧ PM.dist p b bf = 1 ∧ t = some (PM.tow p b bf))
theorem num_skip {p : Int} {b bf : PM.Ball} {sm : Bool} {t : Option Int} (h : Bef p b bf sm t) (hp : Pr p) (hb : PM.Ok p b) (i r : Int) (hi : -1 ≤ i) (hip : i + 1 ≤ p) (hs : sm = true) (hy : PM.nbr p b (i + 1) = some bf) (hr : 0 ≤ r) : num t (i + 1) r = num t i r := by
  rcases h with ⟨h, _⟩ | ⟨_, o, d, rfl⟩
  · rw [h] at hs; cases hs
  · have := (PM.nbr_iff hp hb o d (k := i + 1) (by omega) hip).1 hy
    unfold num; simp only
    rw [if_neg (by omega), if_pos (by omega)]; omega
theorem num_take {p : Int} {b bf : PM.Ball} {sm : Bool} {t : Option Int} (h : Bef p b bf sm t) (hp : Pr p) (hb : PM.Ok p b) (i r : Int) (hi : -1 ≤ i) (hip : i + 1 ≤ p) (hy : sm = true → PM.nbr p b (i + 1) ≠ some bf) (hr : 0 ≤ r) : num t i 0 = i + 1 ∧ num t (i + 1) (r - 1) = num t i r := by
  rcases h with ⟨h, rfl⟩ | ⟨h, o, d, rfl⟩
  · unfold num; simp only; omega
  · have hne : ¬ (i + 1 = PM.tow p b bf) := fun q => hy h ((PM.nbr_iff hp hb o d (k := i + 1) (by omega) hip).2 q)
    unfold num; simp only
    refine ⟨by rw [if_neg (by omega)]; omega, ?_⟩
    by_cases q : i + 1 ≤ PM.tow p b bf ∧ PM.tow p b bf ≤ i + 1 + r
    · rw [if_pos q, if_pos (by omega)]; omega
    · rw [if_neg q, if_neg (by omega)]; omega
theorem next_go {p : Int} {b bf : PM.Ball} {sm : Bool} {t : Option Int} (h : Bef p b bf sm t) (hp : Pr p) (hb : PM.Ok p b) : ∀ (d : Nat) (i r : Int) (k : Nat), 0 ≤ i → i + d = p → 0 ≤ r → r ≤ 10 → num t i r ≤ p → 13841287400 + 2 * d ≤ k → spec_l07Next.l0 k p sm r i b.lv b.top b.dn bf.lv bf.top bf.dn = some (enc (PM.nbr p b (num t i r))) := by
  have hpl := hp.le
  intro d
  induction d with
  | zero =>
    intro i r k h0 h1 h2 h2' h3 hk
    have := num_ge t i r; omega
  | succ d ih =>
    intro i r k h0 h1 h2 h2' h3 hk
    obtain ⟨k, rfl⟩ : ∃ m, k = m + 1 := ⟨k - 1, by omega⟩
    simp only [spec_l07Next.l0]
    rw [if_pos (by omega), specDown_eq hp hb (by omega) k (by omega)]
    simp only [Option.bind_some]
    have hY : PM.about p (b.lv + 1) (PM.mark p ⟨b.lv, b.top, b.dn⟩ + i * pw p (b.lv + 6)) = PM.nbr p b (i + 1) := by
      unfold PM.nbr; rw [if_neg (by omega), show i + 1 - 1 = i by omega]
    rw [hY]
    obtain ⟨k, rfl⟩ : ∃ m, k = m + 1 := ⟨k - 1, by omega⟩
    have take : (sm = true → PM.nbr p b (i + 1) ≠ some bf) → spec_l07Next.j3 (k + 1) p sm r i (enc (PM.nbr p b (i + 1))).2.2.2 false b.lv b.top b.dn bf.lv bf.top bf.dn (enc (PM.nbr p b (i + 1))).1 (enc (PM.nbr p b (i + 1))).2.1 (enc (PM.nbr p b (i + 1))).2.2.1 = some (enc (PM.nbr p b (num t i r))) := by
      intro hy
      obtain ⟨n1, n2⟩ := num_take h hp hb i r (by omega) (by omega) hy h2
      simp only [spec_l07Next.j3]
      rw [if_neg (by simp)]
      by_cases z : r = 0
      · rw [if_pos z, z, n1]
      · rw [if_neg z, w64 (n := r - 1) (by omega) (by omega), w64 (n := i + 1) (by omega) (by omega), ih (i + 1) (r - 1) k (by omega) (by omega) (by omega) (by omega) (by omega) (by omega), n2]
    by_cases hs : sm = true
    · rw [if_pos hs]
      cases hy : PM.nbr p b (i + 1) with
      | none =>
        have tk := take (by rw [hy]; simp)
        rw [hy] at tk
        rw [if_neg (by simp [enc])]
        exact tk
      | some y =>
        rw [if_pos (by simp [enc])]
        by_cases q : y = bf
        · have : ((enc (some y)).1 == bf.lv && ((enc (some y)).2.1 == bf.top && ((enc (some y)).2.2.1 == bf.dn))) = true := by
            show (y.lv == bf.lv && (y.top == bf.top && (y.dn == bf.dn))) = true
            rw [beqB, decide_eq_true q]
          rw [this]
          have hn := num_skip h hp hb i r (by omega) (by omega) hs (by rw [hy, q]) (by omega)
          simp only [spec_l07Next.j3]
          rw [if_pos trivial, w64 (n := i + 1) (by omega) (by omega), ih (i + 1) r k (by omega) (by omega) (by omega) (by omega) (by omega) (by omega), hn]
        · have : ((enc (some y)).1 == bf.lv && ((enc (some y)).2.1 == bf.top && ((enc (some y)).2.2.1 == bf.dn))) = false := by
            show (y.lv == bf.lv && (y.top == bf.top && (y.dn == bf.dn))) = false
            rw [beqB, decide_eq_false q]
          rw [this]
          have tk := take (by rw [hy]; intro _ w; exact q (Option.some.inj w))
          rw [hy] at tk
          exact tk
    · rw [if_neg hs]
      exact take (fun w => absurd w hs)
theorem l07Next_eq {p r : Int} {b bf : PM.Ball} {sm : Bool} {t : Option Int} (h : Bef p b bf sm t) (hp : Pr p) (hb : PM.Ok p b) (h0 : 0 ≤ r) (h0' : r ≤ 10) (h1 : num t (-1) r ≤ p) : ∀ k, 13841287500 ≤ k → spec_l07Next.f k p b.lv b.top b.dn bf.lv bf.top bf.dn sm r = some (enc (PM.nbr p b (num t (-1) r))) := by
  intro k hk
  have hpl := hp.le
  have hpp := hp.pos
  unfold spec_l07Next.f
  rw [specUp_eq hp hb k (by omega)]
  simp only [Option.bind_some]
  have hY : PM.about p (b.lv - 1) (PM.mark p ⟨b.lv, b.top, b.dn⟩) = PM.nbr p b (-1 + 1) := by
    unfold PM.nbr; rw [if_pos (by omega)]
  rw [hY]
  obtain ⟨k, rfl⟩ : ∃ m, k = m + 1 := ⟨k - 1, by omega⟩
  obtain ⟨k, rfl⟩ : ∃ m, k = m + 1 := ⟨k - 1, by omega⟩
  have take : (sm = true → PM.nbr p b (-1 + 1) ≠ some bf) → spec_l07Next.j0 (k + 1 + 1) p sm r (enc (PM.nbr p b (-1 + 1))).2.2.2 true b.lv b.top b.dn bf.lv bf.top bf.dn (enc (PM.nbr p b (-1 + 1))).1 (enc (PM.nbr p b (-1 + 1))).2.1 (enc (PM.nbr p b (-1 + 1))).2.2.1 = some (enc (PM.nbr p b (num t (-1) r))) := by
    intro hy
    obtain ⟨n1, n2⟩ := num_take h hp hb (-1) r (by omega) (by omega) hy h0
    simp only [spec_l07Next.j0]
    rw [if_pos trivial]
    by_cases z : r = 0
    · rw [if_pos z, z, n1]
    · simp only [spec_l07Next.j1]
      rw [if_neg z, w64 (n := r - 1) (by omega) (by omega)]
      have := next_go h hp hb p.toNat 0 (r - 1) k (by omega) (by omega) (by omega) (by omega) (by rw [show (0 : Int) = -1 + 1 by omega]; omega) (by omega)
      rw [this, ← n2]; rfl
  by_cases hs : sm = true
  · rw [if_pos hs]
    cases hy : PM.nbr p b (-1 + 1) with
    | none =>
      have tk := take (by rw [hy]; simp)
      rw [hy] at tk
      rw [if_neg (by simp [enc])]
      exact tk
    | some y =>
      rw [if_pos (by simp [enc])]
      by_cases q : y = bf
      · have : (!((enc (some y)).1 == bf.lv) || (!((enc (some y)).2.1 == bf.top) || (!((enc (some y)).2.2.1 == bf.dn)))) = false := by
          show (!(y.lv == bf.lv) || (!(y.top == bf.top) || (!(y.dn == bf.dn)))) = false
          rw [bneB, decide_eq_true q]; rfl
        rw [this]
        have hn := num_skip h hp hb (-1) r (by omega) (by omega) hs (by rw [hy, q]) (by omega)
        simp only [spec_l07Next.j0, spec_l07Next.j1]
        rw [if_neg (by simp)]
        have := next_go h hp hb p.toNat 0 r k (by omega) (by omega) (by omega) (by omega) (by rw [show (0 : Int) = -1 + 1 by omega]; omega) (by omega)
        rw [this, ← hn]; rfl
      · have : (!((enc (some y)).1 == bf.lv) || (!((enc (some y)).2.1 == bf.top) || (!((enc (some y)).2.2.1 == bf.dn)))) = true := by
          show (!(y.lv == bf.lv) || (!(y.top == bf.top) || (!(y.dn == bf.dn)))) = true
          rw [bneB, decide_eq_false q]; rfl
        rw [this]
        have tk := take (by rw [hy]; intro _ w; exact q (Option.some.inj w))
        rw [hy] at tk
        exact tk
  · rw [if_neg hs]
    exact take (fun w => absurd w hs)


theorem areBalls_two (p : Int) (b c : PM.Ball) : ∀ k, 40 ≤ k → impl_areBalls.f k p [enS b, enS c] = some (decide (Pr p ∧ PM.Ok p b ∧ PM.Ok p c)) := by
  intro k hk
  obtain ⟨k, rfl⟩ : ∃ m, k = m + 1 := ⟨k - 1, by omega⟩
  obtain ⟨k, rfl⟩ : ∃ m, k = m + 1 := ⟨k - 1, by omega⟩
  obtain ⟨k, rfl⟩ : ∃ m, k = m + 1 := ⟨k - 1, by omega⟩
  unfold impl_areBalls.f
  simp only [impl_areBalls.l0]
  rw [if_pos (by simp), if_pos (by omega), if_pos (by simp), show rd_T34 [enS b, enS c] 0 = enS b from rfl]
  show ((impl_IsBall.f _ p b.lv b.top b.dn).bind _) = _
  rw [IsBall_eq p b.lv b.top b.dn _ (by omega)]
  simp only [Option.bind_some]
  by_cases h1 : Pr p ∧ PM.Ok p ⟨b.lv, b.top, b.dn⟩
  · rw [decide_eq_true h1, if_pos rfl, w64 (n := 0 + 1) (by omega) (by omega), if_pos (by simp), if_pos (by omega), if_pos (by simp), show rd_T34 [enS b, enS c] (0 + 1) = enS c from rfl]
    show ((impl_IsBall.f _ p c.lv c.top c.dn).bind _) = _
    rw [IsBall_eq p c.lv c.top c.dn _ (by omega)]
    simp only [Option.bind_some]
    by_cases h2 : Pr p ∧ PM.Ok p ⟨c.lv, c.top, c.dn⟩
    · rw [decide_eq_true h2, if_pos rfl, w64 (n := 0 + 1 + 1) (by omega) (by omega), if_neg (by simp), isPrime_eq]
      rcases prime_cases p with ⟨g, _⟩ | ⟨_, g⟩
      · rw [g]; simp only [Option.bind_some]
        rw [decide_eq_true (show Pr p ∧ PM.Ok p b ∧ PM.Ok p c from ⟨h1.1, h1.2, h2.2⟩)]
      · exact absurd h1.1 g
    · rw [decide_eq_false h2, if_neg (by simp), decide_eq_false (fun z : Pr p ∧ PM.Ok p b ∧ PM.Ok p c => h2 ⟨z.1, z.2.2⟩)]
  · rw [decide_eq_false h1, if_neg (by simp), decide_eq_false (fun z : Pr p ∧ PM.Ok p b ∧ PM.Ok p c => h1 ⟨z.1, z.2.1⟩)]
theorem l01Code_two (p : Int) (b c : PM.Ball) : ∃ K, ∀ k, K ≤ k → spec_l01Code.f k p [enS b, enS c] = some (if Pr p ∧ PM.Ok p b ∧ PM.Ok p c then 0 else 1) := by
  obtain ⟨K, h⟩ := l01Code_eq p [enS b, enS c] (by simp)
  refine ⟨K, fun k hk => ?_⟩
  rw [h k hk]
  have e : [enS b, enS c].all (bOk p) = true ↔ PM.Ok p b ∧ PM.Ok p c := by
    simp only [List.all_cons, List.all_nil, Bool.and_true, Bool.and_eq_true, bOk, decide_eq_true_iff]; exact Iff.rfl
  by_cases q : Pr p ∧ PM.Ok p b ∧ PM.Ok p c
  · rw [if_pos q, if_pos ⟨q.1, e.2 q.2⟩]
  · rw [if_neg q, if_neg (fun z => q ⟨z.1, e.1 z.2⟩)]
theorem fc_fcB (p i : Int) : fc p i = PM.fcB p i := rfl
theorem adj_num {g : Int} (t : Option Int) (h0 : 0 ≤ g) (ht : ∀ s, t = some s → 0 ≤ s ∧ s ≠ g) : num t (-1) (PM.adj t g) = g ∧ 0 ≤ PM.adj t g ∧ ∀ i, 0 ≤ i → i < PM.adj t g → num t (-1) i < g ∧ 0 ≤ num t (-1) i := by
  cases t with
  | none => unfold num PM.adj; simp only; refine ⟨by omega, by omega, fun i _ _ => by omega⟩
  | some s =>
    obtain ⟨s0, s1⟩ := ht s rfl
    unfold num PM.adj; simp only
    by_cases q : s < g
    · simp only [if_pos q]
      refine ⟨by rw [if_pos (by omega)]; omega, by omega, fun i h1 h2 => ?_⟩
      by_cases z : -1 + 1 ≤ s ∧ s ≤ -1 + 1 + i
      · rw [if_pos z]; omega
      · rw [if_neg z]; omega
    · simp only [if_neg q]
      refine ⟨by rw [if_neg (by omega)]; omega, by omega, fun i h1 h2 => ?_⟩
      by_cases z : -1 + 1 ≤ s ∧ s ≤ -1 + 1 + i
      · omega
      · rw [if_neg z]; omega
theorem spec_go {p : Int} {c : PM.Ball} (hp : Pr p) (hc : PM.Ok p c) : ∀ (n : Nat) (pl : Int) (x bf : PM.Ball) (sm : Bool) (t : Option Int) (k : Nat), PM.Ok p x → PM.dist p x c = n → Bef p x bf sm t → (sm = true → PM.dist p bf c = PM.dist p x c + 1) → (pl = 0 ↔ sm = false) → 0 ≤ pl → (pl + 2) * 7 ^ n ≤ 4802 → 13841287600 + 20 * n ≤ k → spec_PlaceOfBall.l0 k p pl sm c.lv c.top c.dn x.lv x.top x.dn bf.lv bf.top bf.dn = some (PM.placeF p c n pl x t, 0) := by
  have hpl := hp.le
  have hpp := hp.pos
  intro n
  induction n with
  | zero =>
    intro pl x bf sm t k hx hd hb hf hz h0 hq hk
    obtain ⟨k, rfl⟩ : ∃ m, k = m + 1 := ⟨k - 1, by omega⟩
    simp only [spec_PlaceOfBall.l0]
    have e := (PM.dist_zero hp hx hc).1 (by omega)
    rw [bneB, decide_eq_true e, if_neg (by simp)]
    rfl
  | succ n ih =>
    intro pl x bf sm t k hx hd hb hf hz h0 hq hk
    obtain ⟨k, rfl⟩ : ∃ m, k = m + 1 := ⟨k - 1, by omega⟩
    have hne : x ≠ c := fun e => by have := (PM.dist_zero hp hx hc).2 e; omega
    obtain ⟨g0, g1⟩ := PM.tow_bd hp x c
    obtain ⟨s1, s2, s3, s4⟩ := PM.stepB_spec hp hx hc (by omega)
    have ht : ∀ s, t = some s → 0 ≤ s ∧ s ≠ PM.tow p x c := by
      intro s hs
      rcases hb with ⟨_, e⟩ | ⟨e1, e2, e3, e4⟩
      · rw [e] at hs; cases hs
      · rw [e4] at hs
        obtain rfl := Option.some.inj hs
        refine ⟨(PM.tow_bd hp x bf).1, fun q => ?_⟩
        have := (PM.nbr_iff hp hx e2 e3 g0 g1).2 q.symm
        rw [s1] at this
        have e5 := Option.some.inj this
        have := hf e1
        rw [← e5] at this
        omega
    obtain ⟨m1, m2, m3⟩ := adj_num t g0 ht
    have ab := PM.adj_bd hp t g0 g1 (fun s hs => (ht s hs).1)
    obtain ⟨b1, b2, b3, b4⟩ := PM.pl_bd (n := n) hp h0 hq ab.1 ab.2
    have hcn : PM.adj t (PM.tow p x c) < cn p pl := by
      unfold cn
      by_cases z : pl = 0
      · rw [if_pos z]; omega
      · rw [if_neg z]
        rcases hb with ⟨e, _⟩ | ⟨e1, e2, e3, e4⟩
        · exact absurd (hz.2 e) z
        · have := PM.tow_bd hp x bf
          have := ht _ e4
          rw [e4]; unfold PM.adj; simp only
          by_cases q : PM.tow p x bf < PM.tow p x c
          · rw [if_pos q]; omega
          · rw [if_neg q]; omega
    simp only [spec_PlaceOfBall.l0]
    rw [bneB, decide_eq_false hne, if_pos (by simp), child_eq p pl hp h0 (by omega)]
    simp only [Option.bind_some]
    rw [fc_fcB]
    have loop : ∀ (e : Nat) (i : Int) (k : Nat), 0 ≤ i → i + e = PM.adj t (PM.tow p x c) → 13841287600 + 20 * n + e + 2 ≤ k → spec_PlaceOfBall.l1 k p pl sm (PM.fcB p pl) (cn p pl) i c.lv c.top c.dn x.lv x.top x.dn bf.lv bf.top bf.dn = some (PM.placeF p c (n + 1) pl x t, 0) := by
      intro e
      induction e with
      | zero =>
        intro i k i0 ie hk
        obtain ⟨k, rfl⟩ : ∃ m, k = m + 1 := ⟨k - 1, by omega⟩
        have ei : i = PM.adj t (PM.tow p x c) := by omega
        simp only [spec_PlaceOfBall.l1]
        rw [if_pos (by omega), l07Next_eq hb hp hx i0 (by omega) (by rw [ei, m1]; omega) k (by omega), ei, m1, s1]
        simp only [Option.bind_some]
        rw [if_pos (by simp [enc])]
        show ((spec_l02Distance.f k p (PM.stepB p c x).lv (PM.stepB p c x).top (PM.stepB p c x).dn c.lv c.top c.dn).bind _) = _
        rw [l02Distance_eq (l1 := (PM.stepB p c x).lv) (t1 := (PM.stepB p c x).top) (d1 := (PM.stepB p c x).dn) hp s2 hc k (by omega), l02Distance_eq hp hx hc k (by omega)]
        simp only [Option.bind_some]
        rw [if_pos (show PM.dist p (PM.stepB p c x) c < PM.dist p x c by omega), w64 (by omega) (by omega)]
        rw [PM.placeF]
        exact ih _ _ _ _ _ k s2 (by omega) (Or.inr ⟨rfl, hx, by rw [PM.dist_comm]; exact s4, rfl⟩) (fun _ => by omega) ⟨fun w => by omega, fun w => by cases w⟩ (by omega) b4 (by omega)
      | succ e ie2 =>
        intro i k i0 ie hk
        obtain ⟨k, rfl⟩ : ∃ m, k = m + 1 := ⟨k - 1, by omega⟩
        obtain ⟨u1, u2⟩ := m3 i i0 (by omega)
        simp only [spec_PlaceOfBall.l1]
        rw [if_pos (by omega), l07Next_eq hb hp hx i0 (by omega) (by omega) k (by omega)]
        simp only [Option.bind_some]
        have nx := ie2 (i + 1) k (by omega) (by omega) (by omega)
        cases hy : PM.nbr p x (num t (-1) i) with
        | none =>
          rw [if_neg (by simp [enc]), w64 (n := i + 1) (by omega) (by omega)]
          exact nx
        | some y =>
          have oy := PM.nbr_ok hp hy
          have dd := PM.dist_tow hp hx hc hne u2 (by omega) hy
          rw [if_pos (by simp [enc])]
          show ((spec_l02Distance.f k p y.lv y.top y.dn c.lv c.top c.dn).bind _) = _
          rw [l02Distance_eq hp oy hc k (by omega), l02Distance_eq hp hx hc k (by omega)]
          simp only [Option.bind_some]
          rw [if_neg (show ¬ (PM.dist p y c < PM.dist p x c) from fun w => by have := dd.1 w; omega), w64 (n := i + 1) (by omega) (by omega)]
          exact nx
    exact loop (PM.adj t (PM.tow p x c)).toNat 0 k (by omega) (by omega) (by omega)
theorem tow_step {p : Int} (hp : Pr p) {x c : PM.Ball} (hx : PM.Ok p x) (hc : PM.Ok p c) (hn : PM.dist p x c ≠ 0) : PM.tow p x (PM.stepB p c x) = PM.tow p x c := by
  obtain ⟨s1, s2, s3, s4⟩ := PM.stepB_spec hp hx hc hn
  obtain ⟨g0, g1⟩ := PM.tow_bd hp x c
  exact ((PM.nbr_iff hp hx s2 s4 g0 g1).1 s1).symm
def bef (p : Int) (b c : PM.Ball) : Nat → Option Int
  | 0 => none
  | j + 1 => some (PM.tow p (PM.itB p c (j + 1) b) (PM.itB p c j b))
theorem impl_go {p : Int} {b c : PM.Ball} (hp : Pr p) (hb : PM.Ok p b) (hc : PM.Ok p c) (D : Nat) (hD : PM.dist p b c = D) (hD4 : D ≤ 4) : ∀ (d j : Nat) (pl : Int) (k : Nat), j + d = D → 0 ≤ pl → (pl + 2) * 7 ^ d ≤ 4802 → 100 + d ≤ k → impl_PlaceOfBall.l0 k p ((PM.path p c D b).map enS) pl ((j : Int) + 1) = some (PM.placeF p c d pl (PM.itB p c j b) (bef p b c j), 0) := by
  have hpl := hp.le
  have hl : ((PM.path p c D b).map enS).length = D + 1 := by rw [List.length_map, PM.path_len]
  have rdw : ∀ i : Nat, i ≤ D → rd_T34 ((PM.path p c D b).map enS) (i : Int) = enS (PM.itB p c i b) := by
    intro i hi
    have := PM.path_get p c D i b hi
    simp [rd_T34, this]
  intro d
  induction d with
  | zero =>
    intro j pl k hj h0 hq hk
    obtain ⟨k, rfl⟩ : ∃ m, k = m + 1 := ⟨k - 1, by omega⟩
    simp only [impl_PlaceOfBall.l0]
    rw [if_neg (by rw [hl]; omega)]
    rfl
  | succ d ih =>
    intro j pl k hj h0 hq hk
    obtain ⟨k, rfl⟩ : ∃ m, k = m + 1 := ⟨k - 1, by omega⟩
    obtain ⟨oj, dj⟩ := PM.itB_spec hp hb hc j (by omega)
    obtain ⟨s1, s2, s3, s4⟩ := PM.stepB_spec hp oj hc (by omega)
    have st : PM.itB p c (j + 1) b = PM.stepB p c (PM.itB p c j b) := PM.itB_succ p c j b
    obtain ⟨g0, g1⟩ := PM.tow_bd hp (PM.itB p c j b) c
    have hbef : ∀ s, bef p b c j = some s → 0 ≤ s := by
      intro s hs
      cases j with
      | zero => cases hs
      | succ j => obtain rfl := Option.some.inj hs; exact (PM.tow_bd hp _ _).1
    have ab := PM.adj_bd hp (bef p b c j) g0 g1 hbef
    obtain ⟨b1, b2, b3, b4⟩ := PM.pl_bd (n := d) hp h0 hq ab.1 ab.2
    have nxt := ih (j + 1) _ k (by omega) (by omega) b4 (by omega)
    have hres : PM.placeF p c (d + 1) pl (PM.itB p c j b) (bef p b c j) = PM.placeF p c d (PM.fcB p pl + PM.adj (bef p b c j) (PM.tow p (PM.itB p c j b) c)) (PM.itB p c (j + 1) b) (bef p b c (j + 1)) := by
      rw [PM.placeF, ← st]; rfl
    rw [hres, ← nxt]
    have e1 : (j : Int) + 1 - 1 = (j : Int) := by omega
    simp only [impl_PlaceOfBall.l0]
    rw [w64 (n := (j : Int) + 1 - 1) (by omega) (by omega), e1, if_pos (by rw [hl]; omega), if_pos (by omega), if_pos (by rw [hl]; omega), if_pos (by omega), rdw j (by omega), show (j : Int) + 1 = ((j + 1 : Nat) : Int) from by omega, rdw (j + 1) (by omega), st]
    show ((impl_toward.f k p (PM.itB p c j b).lv (PM.itB p c j b).top (PM.itB p c j b).dn (PM.stepB p c (PM.itB p c j b)).lv (PM.stepB p c (PM.itB p c j b)).top (PM.stepB p c (PM.itB p c j b)).dn).bind _) = _
    rw [toward_eq hp oj s2 s4 k (by omega), tow_step hp oj hc (by omega)]
    simp only [Option.bind_some]
    rw [firstChild_eq p pl hp h0 (by omega), fc_fcB]
    simp only [Option.bind_some]
    rw [w64 (n := ((j + 1 : Nat) : Int) + 1) (by omega) (by omega)]
    cases j with
    | zero =>
      rw [if_neg (by omega)]
      have ea : PM.adj (bef p b c 0) (PM.tow p (PM.itB p c 0 b) c) = PM.tow p (PM.itB p c 0 b) c := rfl
      rw [ea] at *
      rw [w64 (by omega) (by omega)]
    | succ j =>
      obtain ⟨om, dm⟩ := PM.itB_spec hp hb hc j (by omega)
      obtain ⟨_, _, _, v4⟩ := PM.stepB_spec hp om hc (by omega)
      have v5 : PM.dist p (PM.itB p c (j + 1) b) (PM.itB p c j b) = 1 := by rw [PM.dist_comm, PM.itB_succ]; exact v4
      rw [if_pos (by omega), w64 (n := ((j + 1 + 1 : Nat) : Int) - 2) (by omega) (by omega), if_pos (by omega), if_pos (by rw [hl]; omega), show ((j + 1 + 1 : Nat) : Int) - 2 = (j : Int) from by omega, rdw j (by omega)]
      show ((impl_toward.f k p (PM.itB p c (j + 1) b).lv (PM.itB p c (j + 1) b).top (PM.itB p c (j + 1) b).dn (PM.itB p c j b).lv (PM.itB p c j b).top (PM.itB p c j b).dn).bind _) = _
      rw [toward_eq hp oj om v5 k (by omega)]
      simp only [Option.bind_some]
      have ea : PM.adj (bef p b c (j + 1)) (PM.tow p (PM.itB p c (j + 1) b) c) = if PM.tow p (PM.itB p c (j + 1) b) (PM.itB p c j b) < PM.tow p (PM.itB p c (j + 1) b) c then PM.tow p (PM.itB p c (j + 1) b) c - 1 else PM.tow p (PM.itB p c (j + 1) b) c := rfl
      generalize PM.adj (bef p b c (j + 1)) (PM.tow p (PM.itB p c (j + 1) b) c) = A at *
      by_cases q : PM.tow p (PM.itB p c (j + 1) b) (PM.itB p c j b) < PM.tow p (PM.itB p c (j + 1) b) c
      · rw [if_pos q] at ea
        rw [if_pos q, w64 (n := PM.tow p (PM.itB p c (j + 1) b) c - 1) (by omega) (by omega), ← ea, w64 (by omega) (by omega)]
      · rw [if_neg q] at ea
        rw [if_neg q, ← ea, w64 (by omega) (by omega)]
def res (p : Int) (b c : PM.Ball) : Int × Int := if Pr p ∧ PM.Ok p b ∧ PM.Ok p c then (if PM.dist p b c > 4 then (0, 4) else (PM.placeF p c (PM.dist p b c).toNat 0 b none, 0)) else (0, 1)
theorem pw7 (n : Nat) (h : n ≤ 4) : ((0 : Int) + 2) * 7 ^ n ≤ 4802 := by
  match n, h with
  | 0, _ => decide
  | 1, _ => decide
  | 2, _ => decide
  | 3, _ => decide
  | 4, _ => decide
theorem spec_res (p : Int) (b c : PM.Ball) : ∃ K, ∀ k, K ≤ k → spec_PlaceOfBall.f k p b.lv b.top b.dn c.lv c.top c.dn = some (res p b c) := by
  obtain ⟨K, h⟩ := l01Code_two p b c
  refine ⟨K + 13841287800, fun k hk => ?_⟩
  unfold spec_PlaceOfBall.f res
  show ((spec_l01Code.f k p [enS b, enS c]).bind _) = _
  rw [h k (by omega)]
  simp only [Option.bind_some]
  by_cases q : Pr p ∧ PM.Ok p b ∧ PM.Ok p c
  · obtain ⟨hp, hb, hc⟩ := q
    rw [if_pos (show Pr p ∧ PM.Ok p b ∧ PM.Ok p c from ⟨hp, hb, hc⟩), if_pos (show Pr p ∧ PM.Ok p b ∧ PM.Ok p c from ⟨hp, hb, hc⟩), if_pos rfl, l02Distance_eq hp hb hc k (by omega)]
    simp only [Option.bind_some]
    show (if PM.dist p b c > 4 then _ else _) = _
    by_cases g : PM.dist p b c > 4
    · rw [if_pos g, if_pos g]
    · have := PM.dist_nonneg hb hc
      rw [if_neg g, if_neg g]
      exact spec_go hp hc (PM.dist p b c).toNat 0 b ⟨0, 0, 0⟩ false none k hb (by omega) (Or.inl ⟨rfl, rfl⟩) (by simp) (by simp) (by omega) (pw7 _ (by omega)) (by omega)
  · rw [if_neg q, if_neg q, if_neg (by omega)]
theorem impl_res (p : Int) (b c : PM.Ball) : ∃ K, ∀ k, K ≤ k → impl_PlaceOfBall.f k p b.lv b.top b.dn c.lv c.top c.dn = some (res p b c) := by
  refine ⟨1000, fun k hk => ?_⟩
  unfold impl_PlaceOfBall.f res
  show ((impl_areBalls.f k p [enS b, enS c]).bind _) = _
  rw [areBalls_two p b c k (by omega)]
  simp only [Option.bind_some]
  by_cases q : Pr p ∧ PM.Ok p b ∧ PM.Ok p c
  · obtain ⟨hp, hb, hc⟩ := q
    rw [decide_eq_true (show Pr p ∧ PM.Ok p b ∧ PM.Ok p c from ⟨hp, hb, hc⟩), if_pos (show Pr p ∧ PM.Ok p b ∧ PM.Ok p c from ⟨hp, hb, hc⟩), if_pos rfl, distance_eq hp hb hc k (by omega)]
    simp only [Option.bind_some]
    show (if PM.dist p b c > 4 then _ else _) = _
    by_cases g : PM.dist p b c > 4
    · rw [if_pos g, if_pos g]
    · have := PM.dist_nonneg hb hc
      rw [if_neg g, if_neg g, geodesic_eq hp hb hc k (by omega)]
      simp only [Option.bind_some]
      exact impl_go hp hb hc (PM.dist p b c).toNat (by omega) (by omega) (PM.dist p b c).toNat 0 0 k (by omega) (by omega) (pw7 _ (by omega)) (by omega)
  · rw [decide_eq_false q, if_neg (by simp), if_neg q]
theorem FnExactPlaceOfBall (p l1 t1 d1 l2 t2 d2 : Int) (_ : (Lit.int .i64 p).wf = true) (_ : (Lit.int .i64 l1).wf = true) (_ : (Lit.int .i64 t1).wf = true) (_ : (Lit.int .i64 d1).wf = true) (_ : (Lit.int .i64 l2).wf = true) (_ : (Lit.int .i64 t2).wf = true) (_ : (Lit.int .i64 d2).wf = true) : ∃ k, laws_FnExactPlaceOfBall.f k p l1 t1 d1 l2 t2 d2 = some true := by
  obtain ⟨K1, h1⟩ := spec_res p ⟨l1, t1, d1⟩ ⟨l2, t2, d2⟩
  obtain ⟨K2, h2⟩ := impl_res p ⟨l1, t1, d1⟩ ⟨l2, t2, d2⟩
  refine ⟨K1 + K2, ?_⟩
  unfold laws_FnExactPlaceOfBall.f laws_toBall.f
  simp only [Option.bind_some]
  rw [show spec_PlaceOfBall.f _ p l1 t1 d1 l2 t2 d2 = _ from h1 (K1 + K2) (by omega), show impl_PlaceOfBall.f _ p l1 t1 d1 l2 t2 d2 = _ from h2 (K1 + K2) (by omega)]
  simp

end Go.Proofs.Ytfkglijnbgijbaa.Pure
