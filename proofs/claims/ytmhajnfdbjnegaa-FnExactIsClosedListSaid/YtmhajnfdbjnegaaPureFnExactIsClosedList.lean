/- The program's IsClosedList and the reference's return the same, for all arguments: the printed functions' law answers true. -/
import Derived.Test.YtmhajnfdbjnegaaQLFnExactIsClosedList
import Derived.Test.YtmhajnfdbjnegaaMath
set_option linter.unusedVariables false
set_option linter.unusedSimpArgs false
namespace Go.Proofs.Ytmhajnfdbjnegaa.Pure
open Go.RowKit Go.Proofs.Ytmhajnfdbjnegaa.PAll Go.Proofs.YtmhajnfdbjnegaaW.PrintWords Go.Proofs.YtmhajnfdbjnegaaW.PrintLast PM

theorem w64 {n : Int} (h1 : -9223372036854775808 ≤ n) (h2 : n ≤ 9223372036854775807) : wrap64 n = n := by unfold wrap64; omega
theorem wfb {n : Int} (h : (Lit.int .i64 n).wf = true) : -9223372036854775808 ≤ n ∧ n ≤ 9223372036854775807 := by
  simp [Lit.wf, IntKind.min, IntKind.max, IntKind.bits, IntKind.signed] at h; omega
theorem rd_nat (l : List Int) (i : Nat) (h : i < l.length) : l[i]? = some (rd l (i : Int)) := by
  unfold rd; simp [List.getD_eq_getElem?_getD, h]

theorem in_eq (n a b : Int) : spec_l01In.f n a b = some (decide (a ≤ n ∧ n ≤ b)) := by
  unfold spec_l01In.f
  by_cases h : a ≤ n
  · rw [if_pos h]; simp [h]
  · rw [if_neg (by omega)]; simp [h]

/-- all numbers of a list have absolute values of at most so much -/
def allB (m : Int) (l : List Int) : Bool := l.all fun x => decide (-m ≤ x ∧ x ≤ m)
theorem allB_drop (m : Int) (l : List Int) (i : Nat) (h : i < l.length) : allB m (l.drop i) = (decide (-m ≤ rd l i ∧ rd l i ≤ m) && allB m (l.drop (i + 1))) := by
  have h1 := rd_nat l i h
  rw [List.getElem?_eq_getElem h] at h1
  rw [List.drop_eq_getElem_cons h, Option.some.inj h1]; rfl
theorem allB_rd {m : Int} {l : List Int} (h : allB m l = true) {i : Int} (h0 : 0 ≤ i) (h1 : i < l.length) : -m ≤ rd l i ∧ rd l i ≤ m := by
  obtain ⟨n, rfl⟩ := Int.eq_ofNat_of_zero_le h0
  have h2 := rd_nat l n (by omega)
  rw [List.getElem?_eq_getElem (by omega)] at h2
  unfold allB at h
  rw [List.all_eq_true] at h
  have := h (l[n]'(by omega)) (List.getElem_mem _)
  rw [Option.some.inj h2] at this
  simpa using this

theorem within_eq (m : Int) (hm : 0 ≤ m) (hm2 : m ≤ 1000000000000000000) (l : List Int) (hl : l.length ≤ 1048576) : ∃ K, ∀ k, K ≤ k → impl_within.f k m l = some (allB m l) := by
  have go : ∀ (d k i : Nat), i + d = l.length → d < k → impl_within.l0 k m l l.length i = some (allB m (l.drop i)) := by
    intro d
    induction d with
    | zero =>
      intro k i h2 h3
      obtain ⟨k, rfl⟩ : ∃ m, k = m + 1 := ⟨k - 1, by omega⟩
      simp only [impl_within.l0]
      rw [if_neg (by omega), List.drop_eq_nil_of_le (by omega)]; rfl
    | succ d ih =>
      intro k i h2 h3
      obtain ⟨k, rfl⟩ : ∃ m, k = m + 1 := ⟨k - 1, by omega⟩
      simp only [impl_within.l0]
      rw [if_pos (by omega), if_pos (by omega), if_pos (by omega), allB_drop _ _ _ (by omega), w64 (n := -m) (by omega) (by omega), w64 (by omega) (by omega)]
      have := ih k (i + 1) (by omega) (by omega)
      rw [show ((i : Int) + 1) = ((i + 1 : Nat) : Int) from by omega, this]
      by_cases h : rd l (i : Int) < -m
      · rw [if_pos h, decide_eq_false (by omega)]; rfl
      · rw [if_neg h]
        by_cases h' : rd l (i : Int) > m
        · rw [if_pos h', decide_eq_false (by omega)]; rfl
        · rw [if_neg h', decide_eq_true (by omega)]; rfl
  exact ⟨l.length + 1, fun k hk => by
    have := go l.length k 0 (by omega) (by omega)
    simpa [impl_within.f] using this⟩

/-- the first child of a place, how many there are, and all of them -/
def fc (p i : Int) : Int := if i = 0 then 1 else p + 2 + (i - 1) * p
def cn (p i : Int) : Int := if i = 0 then p + 1 else p
def kids (p i : Int) (n : Nat) : List Int := (List.range n).map fun j : Nat => fc p i + (j : Int)
theorem fc_bd (p i : Int) (hp : p = 2 ∨ p = 3 ∨ p = 5 ∨ p = 7) (h0 : 0 ≤ i) (h1 : i ≤ 5000) : i < fc p i ∧ 1 ≤ fc p i ∧ fc p i ≤ 40000 ∧ 2 ≤ cn p i ∧ cn p i ≤ 8 ∧ fc p i + cn p i = p * i + p + 2 := by
  unfold fc cn
  rcases hp with rfl | rfl | rfl | rfl <;> split <;> omega
theorem kids_succ (p i : Int) (n : Nat) : kids p i (n + 1) = kids p i n ++ [fc p i + (n : Int)] := by
  unfold kids; rw [List.range_succ, List.map_append]; rfl
theorem kids_length (p i : Int) (n : Nat) : (kids p i n).length = n := by simp [kids]
theorem kids_rd (p i : Int) (n j : Nat) (h : j < n) : rd (kids p i n) (j : Int) = fc p i + (j : Int) := by
  have := rd_nat (kids p i n) j (by rw [kids_length]; exact h)
  simp only [kids, List.getElem?_map] at this
  rw [List.getElem?_range h] at this
  exact (Option.some.inj this).symm

/-- a sum of so many values from a place on -/
def sumC (f : List Int) (a : Int) : Nat → Int → Int
  | 0, s => s
  | n + 1, s => sumC f (a + 1) n (wrap64 (s + rd f a))
theorem place_bd (p i : Int) (hp : p = 2 ∨ p = 3 ∨ p = 5 ∨ p = 7) (h0 : 1 ≤ i) (h1 : i ≤ 5000) : 0 ≤ (if i ≤ p + 1 then 0 else (i - p - 2) / p + 1) ∧ (if i ≤ p + 1 then 0 else (i - p - 2) / p + 1) < i := by
  rcases hp with rfl | rfl | rfl | rfl <;> split <;> omega

theorem all_drop {α : Type} (P : α → Bool) (l : List α) (i : Nat) (h : i < l.length) : (l.drop i).all P = (P (l[i]'h) && (l.drop (i + 1)).all P) := by
  rw [List.drop_eq_getElem_cons h]; rfl
theorem prDef (p : Int) : PM.Pr p = (p = 2 ∨ p = 3 ∨ p = 5 ∨ p = 7) := rfl
theorem tmod_zero_iff (n p : Int) : n.tmod p = 0 ↔ p ∣ n := Int.dvd_iff_tmod_eq_zero.symm

theorem pw_bd (p k : Int) (hp : Pr p) (h : k ≤ 20) : 1 ≤ pw p k ∧ pw p k ≤ 79792266297612001 := by
  have h1 := pw_pos2 hp k
  have h2 := pw_le hp h
  have h3 : pw p 20 ≤ 79792266297612001 := by
    rcases hp with rfl | rfl | rfl | rfl <;> decide +kernel
  omega
theorem pw_bd12 (p k : Int) (hp : Pr p) (h : k ≤ 12) : 1 ≤ pw p k ∧ pw p k ≤ 13841287201 := by
  have h1 := pw_pos2 hp k
  have h2 := pw_le hp h
  have h3 : pw p 12 ≤ 13841287201 := by
    rcases hp with rfl | rfl | rfl | rfl <;> decide +kernel
  omega
theorem pw_bd6 (p k : Int) (hp : Pr p) (h : k ≤ 6) : 1 ≤ pw p k ∧ pw p k ≤ 117649 := by
  have h1 := pw_pos2 hp k
  have h2 := pw_le hp h
  have h3 : pw p 6 ≤ 117649 := by
    rcases hp with rfl | rfl | rfl | rfl <;> decide +kernel
  omega
theorem pw_succ (p k : Int) (h : 0 ≤ k) : pw p (k + 1) = pw p k * p := by
  rw [pw_add h (by omega), pw_one]

theorem mx_neg (a : Int) (h : a.natAbs ≤ 9223372036854775807) : mx a (wrap64 (-a)) = (a.natAbs : Int) := by
  rw [w64 (by omega) (by omega)]; unfold mx; split <;> omega
theorem gcd_tmod (a b : Int) : Int.gcd b (a.tmod b) = Int.gcd a b := by
  have h := Int.gcd_add_mul_left_right b (a.tmod b) (a.tdiv b)
  rw [Int.tmod_add_mul_tdiv] at h
  rw [Int.gcd_comm a b]; exact h.symm

theorem l01Gcd_eq (a b : Int) (ha : a.natAbs ≤ 9223372036854775807) (hb : b.natAbs ≤ 9223372036854775807) : ∃ K, ∀ k, K ≤ k → spec_l01Gcd.f k a b = some (Int.gcd a b : Int) := by
  have go : ∀ (d k : Nat) (a b : Int), a.natAbs ≤ 9223372036854775807 → b.natAbs ≤ 9223372036854775807 → b.natAbs ≤ d → d < k → spec_l01Gcd.l0 k a b = some (Int.gcd a b : Int) := by
    intro d
    induction d with
    | zero =>
      intro k a b ha hb0 hb hk
      obtain ⟨k, rfl⟩ : ∃ m, k = m + 1 := ⟨k - 1, by omega⟩
      obtain rfl : b = 0 := by omega
      simp only [spec_l01Gcd.l0]
      rw [if_pos trivial, mx_neg a ha, Int.gcd_zero_right]
    | succ d ih =>
      intro k a b ha hb0 hb hk
      obtain ⟨k, rfl⟩ : ∃ m, k = m + 1 := ⟨k - 1, by omega⟩
      simp only [spec_l01Gcd.l0]
      by_cases h : b = 0
      · rw [if_pos h, mx_neg a ha, h, Int.gcd_zero_right]
      · rw [if_neg h, ih k b (a.tmod b) hb0 (by
          have : (a.tmod b).natAbs < b.natAbs := by rw [Int.natAbs_tmod]; exact Nat.mod_lt _ (by omega)
          omega) (by
          have : (a.tmod b).natAbs < b.natAbs := by rw [Int.natAbs_tmod]; exact Nat.mod_lt _ (by omega)
          omega) (by omega), gcd_tmod]
  exact ⟨b.natAbs + 1, fun k hk => by unfold spec_l01Gcd.f; exact go b.natAbs k a b ha hb (Nat.le_refl _) (by omega)⟩

theorem gcd_eq (a b : Int) (ha : a.natAbs ≤ 9223372036854775807) (hb : b.natAbs ≤ 9223372036854775807) : ∃ K, ∀ k, K ≤ k → impl_gcd.f k a b = some (Int.gcd a b : Int) := by
  have go : ∀ (d k : Nat) (a b : Int), a.natAbs ≤ 9223372036854775807 → b.natAbs ≤ 9223372036854775807 → b.natAbs ≤ d → d < k → impl_gcd.l0 k a b = some (Int.gcd a b : Int) := by
    intro d
    induction d with
    | zero =>
      intro k a b ha hb0 hb hk
      obtain ⟨k, rfl⟩ : ∃ m, k = m + 1 := ⟨k - 1, by omega⟩
      obtain rfl : b = 0 := by omega
      simp only [impl_gcd.l0]
      rw [if_pos trivial, mx_neg a ha, Int.gcd_zero_right]
    | succ d ih =>
      intro k a b ha hb0 hb hk
      obtain ⟨k, rfl⟩ : ∃ m, k = m + 1 := ⟨k - 1, by omega⟩
      simp only [impl_gcd.l0]
      by_cases h : b = 0
      · rw [if_pos h, mx_neg a ha, h, Int.gcd_zero_right]
      · rw [if_neg h, ih k b (a.tmod b) hb0 (by
          have : (a.tmod b).natAbs < b.natAbs := by rw [Int.natAbs_tmod]; exact Nat.mod_lt _ (by omega)
          omega) (by
          have : (a.tmod b).natAbs < b.natAbs := by rw [Int.natAbs_tmod]; exact Nat.mod_lt _ (by omega)
          omega) (by omega), gcd_tmod]
  exact ⟨b.natAbs + 1, fun k hk => by unfold impl_gcd.f; exact go b.natAbs k a b ha hb (Nat.le_refl _) (by omega)⟩

theorem isE_bd {n d : Int} (h : isE n d) : -1000000 ≤ n ∧ n ≤ 1000000 ∧ 0 ≤ d ∧ d ≤ 1000000 := by unfold isE at h; omega
theorem mul_bd {a b : Int} (h1 : -1000000 ≤ a) (h2 : a ≤ 1000000) (h3 : -1000000 ≤ b) (h4 : b ≤ 1000000) : -1000000000000 ≤ a * b ∧ a * b ≤ 1000000000000 := by
  have h : (a * b).natAbs ≤ 1000000 * 1000000 := by rw [Int.natAbs_mul]; exact Nat.mul_le_mul (by omega) (by omega)
  omega
def crs (n1 d1 n2 d2 : Int) : Int := n1 * d2 - n2 * d1
theorem crs_bd {n1 d1 n2 d2 : Int} (h1 : isE n1 d1) (h2 : isE n2 d2) : (crs n1 d1 n2 d2).natAbs ≤ 2000000000000 := by
  have a := isE_bd h1; have b := isE_bd h2
  have c := mul_bd (a := n1) (b := d2) (by omega) (by omega) (by omega) (by omega)
  have d := mul_bd (a := n2) (b := d1) (by omega) (by omega) (by omega) (by omega)
  unfold crs; omega
/-- two ends are the same if their cross is 0 -/
theorem crs_zero {n1 d1 n2 d2 : Int} (h1 : isE n1 d1) (h2 : isE n2 d2) (h : crs n1 d1 n2 d2 = 0) : n1 = n2 ∧ d1 = d2 := by
  unfold crs at h
  rcases h1 with ⟨a1, a2⟩ | ⟨a1, a2, a3, a4, a5⟩
  · rcases h2 with ⟨b1, b2⟩ | ⟨b1, b2, b3, b4, b5⟩
    · omega
    · subst a1 a2; simp at h; omega
  · rcases h2 with ⟨b1, b2⟩ | ⟨b1, b2, b3, b4, b5⟩
    · subst b1 b2; simp at h; omega
    · have e : n1 * d2 = n2 * d1 := by omega
      have e1 : d1 ∣ d2 := PM.dvd_of_dvd_mul_right_of_gcd_one (a := d1) (b := n1) (c := d2) ⟨n2, by rw [e, Int.mul_comm]⟩ (by rw [Int.gcd_comm]; exact a5)
      have e2 : d2 ∣ d1 := PM.dvd_of_dvd_mul_right_of_gcd_one (a := d2) (b := n2) (c := d1) ⟨n1, by rw [← e, Int.mul_comm]⟩ (by rw [Int.gcd_comm]; exact b5)
      have e3 : d1 = d2 := Int.dvd_antisymm (by omega) (by omega) e1 e2
      subst e3
      exact ⟨Int.eq_of_mul_eq_mul_right (by omega) e, rfl⟩

def gapz (p n1 d1 n2 d2 : Int) : Int := (vl p (crs n1 d1 n2 d2) : Int) - vl p d1 - vl p d2

theorem mul_bd2 {a b : Int} (A B : Int) (h1 : -A ≤ a) (h2 : a ≤ A) (h3 : -B ≤ b) (h4 : b ≤ B) : -(A * B) ≤ a * b ∧ a * b ≤ A * B := by
  have hA : 0 ≤ A := by omega
  have hB : 0 ≤ B := by omega
  have h : (a * b).natAbs ≤ A.natAbs * B.natAbs := by
    rw [Int.natAbs_mul]; exact Nat.mul_le_mul (by omega) (by omega)
  rw [← Int.natAbs_mul] at h
  have : 0 ≤ A * B := Int.mul_nonneg hA hB
  omega
theorem mn_min (a b : Int) : mn a b = min a b := by unfold mn; split <;> omega
theorem mx_max (a b : Int) : mx a b = max a b := by unfold mx; split <;> omega
theorem okb {p lv top dn : Int} (h : PM.Ok p ⟨lv, top, dn⟩) : -6 ≤ lv ∧ lv ≤ 6 ∧ 0 ≤ dn ∧ dn ≤ 6 ∧ 0 ≤ top := by
  unfold PM.Ok at h; simp only at h; omega
theorem ok_top {p lv top dn : Int} (hp : Pr p) (h : PM.Ok p ⟨lv, top, dn⟩) : 0 ≤ top ∧ top ≤ 13841287201 := by
  have hb := okb h
  have := pw_bd12 p (lv + dn) hp (by omega)
  unfold PM.Ok at h; simp only at h; omega
theorem mark_bd12 {p lv top dn : Int} (hp : Pr p) (h : PM.Ok p ⟨lv, top, dn⟩) : 0 ≤ PM.mark p ⟨lv, top, dn⟩ ∧ PM.mark p ⟨lv, top, dn⟩ ≤ 13841287201 := by
  have hb := okb h
  have := PM.mark_bd hp h
  have := pw_bd12 p (lv + 6) hp (by omega)
  simp only at *; omega

theorem tmod_fix (a m : Int) (hm : 0 < m) : (a.tmod m + m).tmod m = a % m ∧ -m < a.tmod m ∧ a.tmod m < m := by
  have h1 := Int.tmod_lt_of_pos a hm
  have h2 := Int.lt_tmod_of_pos a hm
  have h3 := Int.mul_tdiv_add_tmod a m
  refine ⟨?_, h2, h1⟩
  rw [Int.tmod_eq_emod_of_nonneg (by omega)]
  rw [show a.tmod m + m = a + m * (1 - a.tdiv m) by rw [Int.mul_sub]; omega, Int.add_mul_emod_self_left]
theorem em_mul (a b m : Int) : (a % m * b) % m = a * b % m := by rw [Int.mul_emod, Int.emod_emod, ← Int.mul_emod]
theorem emb (a m : Int) (hm : 0 < m) : 0 ≤ a % m ∧ a % m < m := ⟨Int.emod_nonneg _ (by omega), Int.emod_lt_of_pos _ hm⟩

theorem vl20 {p n : Int} (hp : Pr p) (h : n ≠ 0) (hb : n.natAbs ≤ 1000000) : vl p n ≤ 19 := by
  have := vl_le hp h (k := 20) (by
    have : (2 : Nat) ^ 20 = 1048576 := by decide
    omega)
  omega
theorem pwvl {p n : Int} (hp : Pr p) (h : n ≠ 0) : 0 < pw p (vl p n) ∧ pw p (vl p n) ≤ (n.natAbs : Int) := by
  refine ⟨pw_pos2 hp _, ?_⟩
  have := Int.le_of_dvd (by omega) (Int.dvd_natAbs.mpr (pw_vl_dvd hp h))
  exact this
theorem un_div {p n : Int} (hp : Pr p) (h : n ≠ 0) : n.tdiv (pw p (vl p n)) = un p n := by
  unfold un; rw [vz_of_ne h, Int.tdiv_eq_ediv_of_dvd (pw_vl_dvd hp h)]
theorem un_bd {p n : Int} (hp : Pr p) (h : n ≠ 0) : (un p n).natAbs ≤ n.natAbs := by
  obtain ⟨e, _⟩ := un_spec hp h
  have h1 := pwvl hp h
  have : n.natAbs = (pw p (vl p n)).natAbs * (un p n).natAbs := by rw [← Int.natAbs_mul, ← e]
  rw [this]
  exact Nat.le_mul_of_pos_left _ (by omega)

def brV (p lv x n d : Int) : Int := if d = 0 ∨ PM.turn p lv x n d < lv then 0 else 1 + (PM.dv p x n d / pw p (lv + 6 + vl p d)) * inv (un p d) p % p
theorem un_mul_pw {p n k : Int} (hp : Pr p) (hn : n ≠ 0) (hk : 0 ≤ k) : un p (pw p k * n) = un p n ∧ (vl p (pw p k * n) : Int) = k + vl p n := by
  have hq := pw_pos2 hp k
  have hv : (vl p (pw p k * n) : Int) = k + vl p n := by
    rw [vl_mul hp (by omega) hn]; have := PM.vl_pw hp k hk; omega
  refine ⟨?_, hv⟩
  unfold un
  rw [vz_of_ne (Int.mul_ne_zero (by omega) hn), hv, vz_of_ne hn, pw_add hk (by omega), Int.mul_ediv_mul_of_pos _ _ hq]
theorem turn_held {p lv x n d : Int} (hd : d ≠ 0) : ¬ PM.turn p lv x n d < lv ↔ (PM.dv p x n d = 0 ∨ lv + 6 + (vl p d : Int) ≤ vl p (PM.dv p x n d)) := by
  unfold PM.turn
  by_cases z : PM.dv p x n d = 0
  · rw [if_pos z]; omega
  · rw [if_neg z]; omega
theorem dv_bd {p x n d : Int} (hp : Pr p) (hx : 0 ≤ x ∧ x ≤ 13841287201) (he : isE n d) : (PM.dv p x n d).natAbs ≤ 15000000000000000 := by
  have hE := isE_bd he
  have h6 := pw_bd6 p 6 hp (by omega)
  have m1 := mul_bd2 (a := n) (b := pw p 6) 1000000 117649 (by omega) (by omega) (by omega) (by omega)
  have m2 := mul_bd2 (a := x) (b := d) 13841287201 1000000 (by omega) (by omega) (by omega) (by omega)
  unfold PM.dv; omega
theorem pwq {p lv d : Int} (hp : Pr p) (hd : d ≠ 0) (hb : d.natAbs ≤ 1000000) (hl : -6 ≤ lv ∧ lv ≤ 6) : 1 ≤ pw p (lv + 6 + vl p d) ∧ pw p (lv + 6 + vl p d) ≤ 13841287201 * 1000000 := by
  have h1 := pwvl hp hd
  have h2 := pw_bd12 p (lv + 6) hp (by omega)
  rw [pw_add (by omega) (by omega)]
  have h3 := mul_bd2 (a := pw p (lv + 6)) (b := pw p (vl p d)) 13841287201 1000000 (by omega) (by omega) (by omega) (by omega)
  have h4 := Int.mul_pos (show 0 < pw p (lv + 6) by omega) h1.1
  omega
theorem held_dvd {p lv x n d : Int} (hp : Pr p) (hd : d ≠ 0) (hl : -6 ≤ lv) (h : ¬ PM.turn p lv x n d < lv) : pw p (lv + 6 + vl p d) ∣ PM.dv p x n d := by
  rcases (turn_held hd).mp h with z | z
  · rw [z]; exact Int.dvd_zero _
  · by_cases z0 : PM.dv p x n d = 0
    · rw [z0]; exact Int.dvd_zero _
    · exact (le_vl_iff' hp z0 (by omega)).mp z

def enc : Option PM.Ball → Int × Int × Int × Bool
  | none => (0, 0, 0, false)
  | some b => (b.lv, b.top, b.dn, true)
def encC (c : Int) : Option PM.Ball → Int × Int × Int × Int
  | none => (0, 0, 0, c)
  | some b => (b.lv, b.top, b.dn, 0)

theorem about_ok {p l x : Int} {b : PM.Ball} (hp : Pr p) (h : PM.about p l x = some b) : PM.Ok p b ∧ b.lv = l ∧ PM.inLv l ∧ PM.mark p b = x % pw p (l + 6) := by
  unfold PM.about at h
  by_cases hl : PM.inLv l
  · rw [if_pos hl] at h
    obtain rfl := Option.some.inj h
    have hl' := hl
    unfold PM.inLv at hl'
    have hq := pw_pos2 hp (l + 6)
    obtain ⟨o1, o2⟩ := PM.ok_mk hp hl'.1 hl'.2 (Int.emod_nonneg x (b := pw p (l + 6)) (by omega)) (Int.emod_lt_of_pos x hq)
    exact ⟨o1, rfl, hl, o2⟩
  · rw [if_neg hl] at h; cases h
theorem brV_bd {p lv x n d : Int} (hp : Pr p) : 0 ≤ brV p lv x n d ∧ brV p lv x n d ≤ p := by
  have hpp := hp.pos
  unfold brV
  by_cases c : d = 0 ∨ PM.turn p lv x n d < lv
  · rw [if_pos c]; omega
  · rw [if_neg c]
    obtain ⟨a, b⟩ := emb (PM.dv p x n d / pw p (lv + 6 + vl p d) * inv (un p d) p) p (by omega)
    omega
/-- the next ball by a number: 0 for the parent -/
def nb (p : Int) (b : PM.Ball) (k : Int) : Option PM.Ball := if k = 0 then PM.about p (b.lv - 1) (PM.mark p b) else PM.about p (b.lv + 1) (PM.mark p b + (k - 1) * pw p (b.lv + 6))
theorem nb_ok {p k : Int} {b c : PM.Ball} (hp : Pr p) (h : nb p b k = some c) : PM.Ok p c := by
  unfold nb at h
  by_cases z : k = 0
  · rw [if_pos z] at h; exact (about_ok hp h).1
  · rw [if_neg z] at h; exact (about_ok hp h).1

theorem dets {a b c d : Int} (ha : a.natAbs ≤ 1000) (hb : b.natAbs ≤ 1000) (hc : c.natAbs ≤ 1000) (hd : d.natAbs ≤ 1000) : wrap64 (wrap64 (a * d) - wrap64 (b * c)) = a * d - b * c ∧ (a * d - b * c).natAbs ≤ 2000000 := by
  have h1 : (a * d).natAbs ≤ 1000000 := by rw [Int.natAbs_mul]; have := Nat.mul_le_mul ha hd; omega
  have h2 : (b * c).natAbs ≤ 1000000 := by rw [Int.natAbs_mul]; have := Nat.mul_le_mul hb hc; omega
  rw [w64 (n := a * d) (by omega) (by omega), w64 (n := b * c) (by omega) (by omega), w64 (by omega) (by omega)]
  exact ⟨rfl, by omega⟩
theorem l04Is_eq (a b c d : Int) : spec_l04Is.f a b c d = some (decide (PM.isM a b c d)) := by
  unfold spec_l04Is.f
  congr 1
  rw [Bool.eq_iff_iff]
  simp only [decide_eq_true_eq]
  unfold PM.isM
  constructor
  · rintro ⟨h1, h2, h3, h4, h5⟩
    rw [(dets (a := a) (b := b) (c := c) (d := d) (by omega) (by omega) (by omega) (by omega)).1] at h5
    exact ⟨⟨h1, h2, h3, h4⟩, h5⟩
  · rintro ⟨⟨h1, h2, h3, h4⟩, h5⟩
    refine ⟨h1, h2, h3, h4, ?_⟩
    rw [(dets (a := a) (b := b) (c := c) (d := d) (by omega) (by omega) (by omega) (by omega)).1]
    exact h5

theorem IsMatrix_eq (a b c d : Int) : ∃ K, ∀ k, K ≤ k → impl_IsMatrix.f k a b c d = some (decide (PM.isM a b c d)) := by
  obtain ⟨K, hw⟩ := within_eq 1000 (by omega) (by omega) [a, b, c, d] (by simp)
  have ew : allB 1000 [a, b, c, d] = decide ((-1000 ≤ a ∧ a ≤ 1000) ∧ (-1000 ≤ b ∧ b ≤ 1000) ∧ (-1000 ≤ c ∧ c ≤ 1000) ∧ (-1000 ≤ d ∧ d ≤ 1000)) := by simp [allB]
  refine ⟨K, fun k hk => ?_⟩
  unfold impl_IsMatrix.f
  rw [hw k hk, ew]
  simp only [Option.bind_some]
  by_cases h : (-1000 ≤ a ∧ a ≤ 1000) ∧ (-1000 ≤ b ∧ b ≤ 1000) ∧ (-1000 ≤ c ∧ c ≤ 1000) ∧ (-1000 ≤ d ∧ d ≤ 1000)
  · rw [decide_eq_true h, if_pos rfl]
    unfold impl_determinant.f
    simp only [Option.bind_some]
    rw [(dets (a := a) (b := b) (c := c) (d := d) (by omega) (by omega) (by omega) (by omega)).1]
    congr 1
    rw [Bool.eq_iff_iff]
    simp only [bne_iff_ne, decide_eq_true_eq]
    unfold PM.isM
    exact ⟨fun z => ⟨h, z⟩, fun z => z.2⟩
  · rw [decide_eq_false h, if_neg (by simp), decide_eq_false]
    exact fun z => h z.1

def mOk (x : S25) : Bool := decide (PM.isM x.f0.f0 x.f0.f1 x.f1.f0 x.f1.f1)
theorem rdM (l : List S25) (i : Nat) (h : i < l.length) : rd_T25 l (i : Int) = l[i]'h := by
  unfold rd_T25; simp [List.getD_eq_getElem?_getD, h]
theorem areMatrices_eq (l : List S25) (hl : l.length ≤ 10000000) : ∃ K, ∀ k, K ≤ k → impl_areMatrices.f k l = some (l.all mOk) := by
  have go : ∀ (d i : Nat), i + d = l.length → ∃ K, ∀ k, K ≤ k → impl_areMatrices.l0 k l l.length i = some ((l.drop i).all mOk) := by
    intro d
    induction d with
    | zero =>
      intro i hi
      refine ⟨1, fun k hk => ?_⟩
      obtain ⟨k, rfl⟩ : ∃ m, k = m + 1 := ⟨k - 1, by omega⟩
      simp only [impl_areMatrices.l0]
      rw [if_neg (by omega), List.drop_eq_nil_of_le (by omega)]; rfl
    | succ d ih =>
      intro i hi
      obtain ⟨K1, h1⟩ := ih (i + 1) (by omega)
      obtain ⟨K2, h2⟩ := IsMatrix_eq (l[i]'(by omega)).f0.f0 (l[i]'(by omega)).f0.f1 (l[i]'(by omega)).f1.f0 (l[i]'(by omega)).f1.f1
      refine ⟨K1 + K2 + 1, fun k hk => ?_⟩
      obtain ⟨k, rfl⟩ : ∃ m, k = m + 1 := ⟨k - 1, by omega⟩
      simp only [impl_areMatrices.l0]
      rw [if_pos (by omega), if_pos (by omega), if_pos (by omega), rdM l i (by omega), h2 k (by omega), all_drop mOk l i (by omega), w64 (by omega) (by omega), show ((i : Int) + 1) = ((i + 1 : Nat) : Int) from by omega, h1 k (by omega)]
      simp only [Option.bind_some]
      show _ = some (decide (PM.isM _ _ _ _) && _)
      by_cases h : PM.isM (l[i]'(by omega)).f0.f0 (l[i]'(by omega)).f0.f1 (l[i]'(by omega)).f1.f0 (l[i]'(by omega)).f1.f1
      · rw [decide_eq_true h]; simp
      · rw [decide_eq_false h]; simp
  obtain ⟨K, h⟩ := go l.length 0 (by omega)
  exact ⟨K, fun k hk => by have := h k hk; simpa [impl_areMatrices.f] using this⟩
theorem isM_mem {l : List S25} (h : l.all mOk = true) {i : Nat} (hi : i < l.length) : PM.isM (l[i]'hi).f0.f0 (l[i]'hi).f0.f1 (l[i]'hi).f1.f0 (l[i]'hi).f1.f1 := by
  rw [List.all_eq_true] at h
  have := h (l[i]'hi) (List.getElem_mem _)
  simpa [mOk] using this
theorem areM2 (a b c d e f g h : Int) : ∃ K, ∀ k, K ≤ k → impl_areMatrices.f k [⟨⟨a, b⟩, ⟨c, d⟩⟩, ⟨⟨e, f⟩, ⟨g, h⟩⟩] = some (decide (PM.isM a b c d ∧ PM.isM e f g h)) := by
  obtain ⟨K, hK⟩ := areMatrices_eq [⟨⟨a, b⟩, ⟨c, d⟩⟩, ⟨⟨e, f⟩, ⟨g, h⟩⟩] (by simp)
  refine ⟨K, fun k hk => ?_⟩
  rw [hK k hk]
  simp [mOk, Bool.decide_and]

/-- the reduced matrix, and whether it fits -/
def redT (a b c d : Int) : Int × Int × Int × Int × Bool := ((PM.red a b c d).1, (PM.red a b c d).2.1, (PM.red a b c d).2.2.1, (PM.red a b c d).2.2.2, decide (PM.isM (PM.red a b c d).1 (PM.red a b c d).2.1 (PM.red a b c d).2.2.1 (PM.red a b c d).2.2.2))
theorem gcd_le (a b : Int) : Int.gcd a b ≤ a.natAbs + b.natAbs := by
  by_cases h : a = 0
  · subst h; simp
  · have : Int.gcd a b ≤ a.natAbs := Nat.le_of_dvd (by omega) (Nat.gcd_dvd_left _ _)
    omega

theorem by_eq (a b : Int) {g : Int} (hg : g.natAbs ≤ 4611686018427387904) : impl_reduced.by_ a b g = g * PM.sg a b := by
  unfold impl_reduced.by_ impl_reduced.nb PM.sg
  by_cases h : a < 0 ∨ (a = 0 ∧ b < 0)
  · rw [decide_eq_true h, if_pos rfl, if_pos h, w64 (by omega) (by omega)]; omega
  · rw [decide_eq_false h, if_neg (by simp), if_neg h]; omega
theorem reduced_eq {a b c d : Int} (ha : a.natAbs ≤ 4000000) (hb : b.natAbs ≤ 4000000) (hc : c.natAbs ≤ 4000000) (hd : d.natAbs ≤ 4000000) (h : a * d - b * c ≠ 0) : ∃ K, ∀ k, K ≤ k → impl_reduced.f k a b c d = some (redT a b c d) := by
  have l1 := gcd_le a b
  have l2 := gcd_le c d
  obtain ⟨K1, h1⟩ := gcd_eq a b (by omega) (by omega)
  obtain ⟨K2, h2⟩ := gcd_eq c d (by omega) (by omega)
  obtain ⟨K3, h3⟩ := gcd_eq (Int.gcd a b : Int) (Int.gcd c d : Int) (by omega) (by omega)
  obtain ⟨K4, h4⟩ := IsMatrix_eq (PM.red a b c d).1 (PM.red a b c d).2.1 (PM.red a b c d).2.2.1 (PM.red a b c d).2.2.2
  have l3 := gcd_le (Int.gcd a b : Int) (Int.gcd c d : Int)
  refine ⟨K1 + K2 + K3 + K4, fun k hk => ?_⟩
  unfold impl_reduced.f
  rw [h1 k (by omega)]
  simp only [Option.bind_some]
  rw [h2 k (by omega)]
  simp only [Option.bind_some]
  rw [h3 k (by omega)]
  simp only [Option.bind_some]
  rw [by_eq a b (by omega), show (Int.gcd (Int.gcd a b : Int) (Int.gcd c d : Int) : Int) * PM.sg a b = PM.by4 a b c d from rfl]
  unfold impl_reduced.g
  have q : ∀ x : Int, x.natAbs ≤ 4000000 → wrap64 (x.tdiv (PM.by4 a b c d)) = x.tdiv (PM.by4 a b c d) := fun x hx => by
    have := PM.tdiv_abs_le x (PM.by4 a b c d)
    exact w64 (by omega) (by omega)
  rw [if_neg (PM.by4_ne h), q a ha, q b hb, q c hc, q d hd]
  have h5 := h4 k (by omega)
  unfold PM.red at h5
  simp only at h5
  rw [h5]
  rfl
theorem redT_M {a b c d : Int} (h : PM.isM a b c d) : (redT a b c d).2.2.2.2 = true := by
  unfold redT
  simp only [decide_eq_true_eq]
  exact (PM.red_isM h.2).mpr (PM.red_small h)

theorem reduce_eq {a b c d : Int} (h : PM.isM a b c d) : ∃ K, ∀ k, K ≤ k → impl_reduce.f k a b c d = some (PM.red a b c d) := by
  have hb := PM.isM_bd h
  obtain ⟨K, hK⟩ := reduced_eq (a := a) (b := b) (c := c) (d := d) (by omega) (by omega) (by omega) (by omega) h.2
  refine ⟨K, fun k hk => ?_⟩
  unfold impl_reduce.f
  rw [hK k hk]; rfl

def sgx (s x : Int) : Int := if s = 0 then (if x = 0 then 0 else if x < 0 then -1 else 1) else s
theorem sgn_div {x : Int} (h : x ≠ 0) : x.tdiv (x.natAbs : Int) = if x < 0 then -1 else 1 := by
  by_cases h0 : x < 0
  · rw [if_pos h0, Int.ofNat_natAbs_of_nonpos (by omega), Int.tdiv_neg, Int.tdiv_self h]
  · rw [if_neg h0, Int.natAbs_of_nonneg (by omega), Int.tdiv_self h]
theorem l0_step {k : Nat} {L : List Int} {g g2 s i : Int} (h0 : 0 ≤ i) (h4 : i < 4) (hL : L.length = 4) (hx : (rd L i).natAbs ≤ 4000000) (hg : spec_l01Gcd.f k g ((rd L i).natAbs : Int) = some g2) :
    spec_l04Reduce.l0 (k + 1) L g s i = spec_l04Reduce.l0 k L g2 (sgx s (rd L i)) (i + 1) := by
  simp only [spec_l04Reduce.l0]
  rw [if_pos h4, if_pos h0, if_pos (by omega), mx_neg _ (by omega), hg]
  simp only [Option.bind_some]
  rw [w64 (n := i + 1) (by omega) (by omega)]
  unfold sgx
  by_cases hs : s = 0
  · rw [if_pos hs, if_pos hs]
    by_cases z : rd L i = 0
    · rw [if_pos z, if_pos z, hs]
    · rw [if_neg z, if_neg z, if_neg (by omega), sgn_div z]
      by_cases n : rd L i < 0
      · rw [if_pos n, w64 (by omega) (by omega)]
      · rw [if_neg n, w64 (by omega) (by omega)]
  · rw [if_neg hs, if_neg hs]
theorem l1_step {k : Nat} {L : List Int} {g s i : Int} {o : Bool} (h0 : 0 ≤ i) (h4 : i < 4) (hL : L.length = 4) (hx : (rd L i).natAbs ≤ 4000000) (hg : g ≠ 0) (hs : s = 1 ∨ s = -1) :
    spec_l04Reduce.l1 (k + 1) L g s o i = spec_l04Reduce.l1 k (L.set i.toNat ((rd L i).tdiv g * s)) g s (o && decide (PM.small ((rd L i).tdiv g * s))) (i + 1) := by
  have hq := PM.tdiv_abs_le (rd L i) g
  have hm : ((rd L i).tdiv g * s).natAbs ≤ 4000000 := by rcases hs with rfl | rfl <;> omega
  simp only [spec_l04Reduce.l1]
  rw [if_pos h4, if_pos h0, if_pos (by omega), if_neg hg, w64 (n := (rd L i).tdiv g) (by omega) (by omega), w64 (n := (rd L i).tdiv g * s) (by omega) (by omega), w64 (n := i + 1) (by omega) (by omega)]
  simp only [Option.bind_some]
  cases o with
  | true =>
    rw [if_pos rfl, in_eq]
    simp only [Option.bind_some, Bool.true_and]
    have : rd (L.set i.toNat ((rd L i).tdiv g * s)) i = (rd L i).tdiv g * s := by
      unfold rd
      rw [List.getD_eq_getElem?_getD, List.getElem?_set_self (by omega)]; rfl
    rw [this]; rfl
  | false => rw [if_neg (by simp)]; rfl
theorem l04Reduce_eq {a b c d : Int} (ha : a.natAbs ≤ 4000000) (hb : b.natAbs ≤ 4000000) (hc : c.natAbs ≤ 4000000) (hd : d.natAbs ≤ 4000000) (h : a * d - b * c ≠ 0) : ∃ K, ∀ k, K ≤ k → spec_l04Reduce.f k a b c d = some (redT a b c d) := by
  have l1 := gcd_le 0 (a.natAbs : Int)
  obtain ⟨K1, h1⟩ := l01Gcd_eq 0 (a.natAbs : Int) (by omega) (by omega)
  have l2 := gcd_le (Int.gcd 0 (a.natAbs : Int) : Int) (b.natAbs : Int)
  obtain ⟨K2, h2⟩ := l01Gcd_eq (Int.gcd 0 (a.natAbs : Int) : Int) (b.natAbs : Int) (by omega) (by omega)
  have l3 := gcd_le (Int.gcd (Int.gcd 0 (a.natAbs : Int) : Int) (b.natAbs : Int) : Int) (c.natAbs : Int)
  obtain ⟨K3, h3⟩ := l01Gcd_eq (Int.gcd (Int.gcd 0 (a.natAbs : Int) : Int) (b.natAbs : Int) : Int) (c.natAbs : Int) (by omega) (by omega)
  have l4 := gcd_le (Int.gcd (Int.gcd (Int.gcd 0 (a.natAbs : Int) : Int) (b.natAbs : Int) : Int) (c.natAbs : Int) : Int) (d.natAbs : Int)
  obtain ⟨K4, h4⟩ := l01Gcd_eq (Int.gcd (Int.gcd (Int.gcd 0 (a.natAbs : Int) : Int) (b.natAbs : Int) : Int) (c.natAbs : Int) : Int) (d.natAbs : Int) (by omega) (by omega)
  have hG := PM.g4_steps a b c d
  have hgp := PM.g4_pos h
  have es : sgx (sgx (sgx (sgx 0 a) b) c) d = PM.sg a b := by
    unfold sgx PM.sg
    by_cases za : a = 0
    · by_cases zb : b = 0
      · subst za zb; simp at h
      · subst za; by_cases nb : b < 0 <;> simp [zb, nb]
    · by_cases na : a < 0 <;> simp [za, na]
  have hsg := PM.sg_cases a b
  refine ⟨K1 + K2 + K3 + K4 + 20, fun k hk => ?_⟩
  obtain ⟨k, rfl⟩ : ∃ m, k = m + 1 + 1 + 1 + 1 + 1 + 1 + 1 + 1 + 1 + 1 := ⟨k - 10, by omega⟩
  unfold spec_l04Reduce.f
  rw [l0_step (g2 := (Int.gcd 0 (a.natAbs : Int) : Int)) (by omega) (by omega) rfl (by simpa [rd] using ha) (by simpa [rd] using h1 _ (by omega))]
  rw [l0_step (g2 := (Int.gcd (Int.gcd 0 (a.natAbs : Int) : Int) (b.natAbs : Int) : Int)) (by omega) (by omega) rfl (by simpa [rd] using hb) (by simpa [rd] using h2 _ (by omega))]
  rw [l0_step (g2 := (Int.gcd (Int.gcd (Int.gcd 0 (a.natAbs : Int) : Int) (b.natAbs : Int) : Int) (c.natAbs : Int) : Int)) (by omega) (by omega) rfl (by simpa [rd] using hc) (by simpa [rd] using h3 _ (by omega))]
  rw [l0_step (g2 := PM.g4 a b c d) (by omega) (by omega) rfl (by simpa [rd] using hd) (by rw [← hG]; simpa [rd] using h4 _ (by omega))]
  rw [show rd [a, b, c, d] 0 = a from rfl, show rd [a, b, c, d] (0 + 1) = b from rfl, show rd [a, b, c, d] (0 + 1 + 1) = c from rfl, show rd [a, b, c, d] (0 + 1 + 1 + 1) = d from rfl, es]
  simp only [spec_l04Reduce.l0]
  have hle : PM.g4 a b c d ≤ 100000000 := by rw [← hG]; omega
  rw [if_neg (by omega), show mx (PM.g4 a b c d) (wrap64 (-(PM.g4 a b c d))) = PM.g4 a b c d by rw [mx_neg _ (by omega)]; omega]
  have hgz : PM.g4 a b c d ≠ 0 := by omega
  rw [l1_step (by omega) (by omega) rfl (by simpa [rd] using ha) hgz hsg]
  rw [show ([a, b, c, d].set (0 : Int).toNat ((rd [a, b, c, d] 0).tdiv (PM.g4 a b c d) * PM.sg a b)) = [a.tdiv (PM.g4 a b c d) * PM.sg a b, b, c, d] from rfl, show rd [a, b, c, d] 0 = a from rfl]
  rw [l1_step (by omega) (by omega) rfl (by simpa [rd] using hb) hgz hsg]
  rw [show ∀ x y : Int, ([x, b, c, d].set (0 + 1 : Int).toNat y) = [x, y, c, d] from fun _ _ => rfl, show ∀ x : Int, rd [x, b, c, d] (0 + 1) = b from fun _ => rfl]
  rw [l1_step (by omega) (by omega) rfl (by simpa [rd] using hc) hgz hsg]
  rw [show ∀ x x' y : Int, ([x, x', c, d].set (0 + 1 + 1 : Int).toNat y) = [x, x', y, d] from fun _ _ _ => rfl, show ∀ x x' : Int, rd [x, x', c, d] (0 + 1 + 1) = c from fun _ _ => rfl]
  rw [l1_step (by omega) (by omega) rfl (by simpa [rd] using hd) hgz hsg]
  rw [show ∀ x x' x'' y : Int, ([x, x', x'', d].set (0 + 1 + 1 + 1 : Int).toNat y) = [x, x', x'', y] from fun _ _ _ _ => rfl, show ∀ x x' x'' : Int, rd [x, x', x'', d] (0 + 1 + 1 + 1) = d from fun _ _ _ => rfl]
  simp only [spec_l04Reduce.l1]
  rw [if_neg (by omega), if_pos (by simp), if_pos (by simp), if_pos (by simp), if_pos (by simp)]
  simp only [← PM.tdiv_sg _ _ _ hsg]
  unfold redT
  have hr := PM.red_isM h
  unfold PM.red at hr ⊢
  simp only at hr ⊢
  rw [show PM.g4 a b c d * PM.sg a b = PM.by4 a b c d from rfl]
  have eb : (((true && decide (PM.small (a.tdiv (PM.by4 a b c d)))) && decide (PM.small (b.tdiv (PM.by4 a b c d)))) && decide (PM.small (c.tdiv (PM.by4 a b c d))) && decide (PM.small (d.tdiv (PM.by4 a b c d)))) = decide (PM.isM (a.tdiv (PM.by4 a b c d)) (b.tdiv (PM.by4 a b c d)) (c.tdiv (PM.by4 a b c d)) (d.tdiv (PM.by4 a b c d))) := by
    rw [Bool.eq_iff_iff]
    simp only [Bool.true_and, Bool.and_eq_true, decide_eq_true_eq, and_assoc]
    exact hr.symm
  rw [eb]; rfl

theorem prods {a b c d e f g h : Int} (h1 : PM.isM a b c d) (h2 : PM.isM e f g h) : wrap64 (wrap64 (a * e) + wrap64 (b * g)) = a * e + b * g ∧ (a * e + b * g).natAbs ≤ 2000000 := by
  have b1 := PM.isM_bd h1
  have b2 := PM.isM_bd h2
  have x1 : (a * e).natAbs ≤ 1000000 := by rw [Int.natAbs_mul]; have := Nat.mul_le_mul b1.1 b2.1; omega
  have x2 : (b * g).natAbs ≤ 1000000 := by rw [Int.natAbs_mul]; have := Nat.mul_le_mul b1.2.1 b2.2.2.1; omega
  rw [w64 (n := a * e) (by omega) (by omega), w64 (n := b * g) (by omega) (by omega), w64 (by omega) (by omega)]
  exact ⟨rfl, by omega⟩
theorem isM_swapR {a b c d : Int} (h : PM.isM a b c d) : PM.isM c d a b := by
  unfold PM.isM at *
  refine ⟨by omega, ?_⟩
  have := h.2
  rw [Int.mul_comm c b, Int.mul_comm d a]; omega
theorem isM_swapC {a b c d : Int} (h : PM.isM a b c d) : PM.isM b a d c := by
  unfold PM.isM at *
  refine ⟨by omega, ?_⟩
  have := h.2
  omega
/-- the product, not yet reduced -/
def pr4 (a b c d e f g h : Int) : Int × Int × Int × Int × Bool := redT (a * e + b * g) (a * f + b * h) (c * e + d * g) (c * f + d * h)
theorem prod_all {a b c d e f g h : Int} (h1 : PM.isM a b c d) (h2 : PM.isM e f g h) :
    (wrap64 (wrap64 (a * e) + wrap64 (b * g)) = a * e + b * g ∧ (a * e + b * g).natAbs ≤ 2000000) ∧ (wrap64 (wrap64 (a * f) + wrap64 (b * h)) = a * f + b * h ∧ (a * f + b * h).natAbs ≤ 2000000) ∧ (wrap64 (wrap64 (c * e) + wrap64 (d * g)) = c * e + d * g ∧ (c * e + d * g).natAbs ≤ 2000000) ∧ (wrap64 (wrap64 (c * f) + wrap64 (d * h)) = c * f + d * h ∧ (c * f + d * h).natAbs ≤ 2000000) ∧ (a * e + b * g) * (c * f + d * h) - (a * f + b * h) * (c * e + d * g) ≠ 0 :=
  ⟨prods h1 h2, prods h1 (isM_swapC h2), prods (isM_swapR h1) h2, prods (isM_swapR h1) (isM_swapC h2), by rw [PM.det_mul]; exact Int.mul_ne_zero h1.2 h2.2⟩
theorem product_eq {a b c d e f g h : Int} (h1 : PM.isM a b c d) (h2 : PM.isM e f g h) : ∃ K, ∀ k, K ≤ k → impl_product.f k a b c d e f g h = some (pr4 a b c d e f g h) := by
  obtain ⟨p1, p2, p3, p4, p5⟩ := prod_all h1 h2
  obtain ⟨K, hK⟩ := reduced_eq (by omega) (by omega) (by omega) (by omega) p5
  refine ⟨K, fun k hk => ?_⟩
  unfold impl_product.f
  rw [p1.1, p2.1, p3.1, p4.1, hK k hk]; rfl

theorem l04Times_eq {a b c d e f g h : Int} (h1 : PM.isM a b c d) (h2 : PM.isM e f g h) : ∃ K, ∀ k, K ≤ k → spec_l04Times.f k a b c d e f g h = some (pr4 a b c d e f g h) := by
  obtain ⟨p1, p2, p3, p4, p5⟩ := prod_all h1 h2
  obtain ⟨K, hK⟩ := l04Reduce_eq (by omega) (by omega) (by omega) (by omega) p5
  refine ⟨K, fun k hk => ?_⟩
  unfold spec_l04Times.f
  rw [p1.1, p2.1, p3.1, p4.1, hK k hk]; rfl

theorem mvlin {c T d S : Int} (hc : c.natAbs ≤ 1000) (hd : d.natAbs ≤ 1000) (hT : T.natAbs ≤ 13841287201) (hS : S.natAbs ≤ 13841287201) :
    wrap64 (wrap64 (c * T) + wrap64 (d * S)) = c * T + d * S ∧ wrap64 (c * T) = c * T ∧ (c * T).natAbs ≤ 13841287201000 ∧ (c * T + d * S).natAbs ≤ 27682574402000 := by
  have h1 : (c * T).natAbs ≤ 1000 * 13841287201 := by rw [Int.natAbs_mul]; exact Nat.mul_le_mul hc hT
  have h2 : (d * S).natAbs ≤ 1000 * 13841287201 := by rw [Int.natAbs_mul]; exact Nat.mul_le_mul hd hS
  rw [w64 (n := c * T) (by omega) (by omega), w64 (n := d * S) (by omega) (by omega), w64 (by omega) (by omega)]
  exact ⟨rfl, rfl, by omega, by omega⟩
theorem mvF_bd {p a b c d P T S : Int} (ha : a.natAbs ≤ 1000) (hb : b.natAbs ≤ 1000) (hc : c.natAbs ≤ 1000) (hd : d.natAbs ≤ 1000) (hP : P.natAbs ≤ 13841287201) (hT : T.natAbs ≤ 13841287201) (hS : S.natAbs ≤ 13841287201) :
    (PM.mvF p a b c d P T S).1.natAbs ≤ 27682574402000 ∧ (PM.mvF p a b c d P T S).2.natAbs ≤ 27682574402000 := by
  have h1 := mvlin ha hb hT hS
  have h2 := mvlin hc hd hT hS
  have h3 := mvlin (d := 0) (S := 0) ha (by simp) hP (by simp)
  have h4 := mvlin (d := 0) (S := 0) hc (by simp) hP (by simp)
  unfold PM.mvF
  split
  · exact ⟨by simp only; omega, by simp only; omega⟩
  · exact ⟨by simp only; omega, by simp only; omega⟩

def cvM (x : S23) : S25 := ⟨⟨x.f0.f0, x.f0.f1⟩, ⟨x.f1.f0, x.f1.f1⟩⟩
theorem rdU (l : List S23) (i : Nat) (h : i < l.length) : rd_T23 l (i : Int) = l[i]'h := by
  unfold rd_T23; simp [List.getD_eq_getElem?_getD, h]
theorem toMats_eq (l : List S23) (hl : l.length ≤ 1048576) : ∃ K, ∀ k, K ≤ k → laws_toMatrixS.f k l = some (l.map cvM) := by
  have go : ∀ (d k : Nat) (acc : List S25) (i : Nat), acc.length = l.length → i + d = l.length → d < k → (∀ j, j < i → acc[j]? = (l.map cvM)[j]?) → laws_toMatrixS.l0 k l acc i = some (l.map cvM) := by
    intro d
    induction d with
    | zero =>
      intro k acc i h1 h2 h3 h4
      obtain ⟨k, rfl⟩ : ∃ m, k = m + 1 := ⟨k - 1, by omega⟩
      simp only [laws_toMatrixS.l0]
      rw [if_neg (by omega)]
      congr 1
      apply List.ext_getElem?
      intro j
      by_cases hj : j < i
      · exact h4 j hj
      · rw [List.getElem?_eq_none (by omega), List.getElem?_eq_none (by rw [List.length_map]; omega)]
    | succ d ih =>
      intro k acc i h1 h2 h3 h4
      obtain ⟨k, rfl⟩ : ∃ m, k = m + 1 := ⟨k - 1, by omega⟩
      simp only [laws_toMatrixS.l0]
      rw [if_pos (by omega), if_pos (by omega), rdU l i (by omega)]
      unfold laws_toMatrix.f
      simp only [Option.bind_some]
      rw [if_pos (by omega), w64 (by omega) (by omega)]
      refine ih k _ (i + 1) (by rw [List.length_set]; exact h1) (by omega) (by omega) fun j hj => ?_
      by_cases e : j = i
      · subst e
        rw [show ((j : Int).toNat) = j from by omega, List.getElem?_set_self (by omega), List.getElem?_map, List.getElem?_eq_getElem (by omega)]; rfl
      · rw [show ((i : Int).toNat) = i from by omega, List.getElem?_set_ne (by omega)]
        exact h4 j (by omega)
  refine ⟨l.length + 1, fun k hk => ?_⟩
  unfold laws_toMatrixS.f
  rw [if_pos (by omega), if_pos (by omega)]
  exact go l.length k _ 0 (by simp) (by omega) (by omega) (by intro j hj; omega)
theorem sz_small (l : List S23) (h : l.length ≤ 1048576) : laws_szMatrixS.f l 1048576 = some (1048576 - (l.length : Int)) := by
  unfold laws_szMatrixS.f
  rw [w64 (by omega) (by omega), if_neg (by omega)]
theorem sz_large (l : List S23) (h : ¬ l.length ≤ 1048576) (h2 : l.length ≤ 9223372036854775807) : laws_szMatrixS.f l 1048576 = some (-1) := by
  unfold laws_szMatrixS.f
  rw [w64 (by omega) (by omega), if_pos (by omega)]

theorem eqMats (l : List S25) (hl : l.length ≤ 1048576) : ∃ K, ∀ k, K ≤ k → laws_eqMatrixS.f k l l = some true := by
  have go : ∀ (d k i : Nat), i + d = l.length → d < k → laws_eqMatrixS.l0 k l l i = some true := by
    intro d
    induction d with
    | zero =>
      intro k i h2 h3
      obtain ⟨k, rfl⟩ : ∃ m, k = m + 1 := ⟨k - 1, by omega⟩
      simp only [laws_eqMatrixS.l0]
      rw [if_neg (by omega)]
    | succ d ih =>
      intro k i h2 h3
      obtain ⟨k, rfl⟩ : ∃ m, k = m + 1 := ⟨k - 1, by omega⟩
      simp only [laws_eqMatrixS.l0]
      rw [if_pos (by omega), if_pos (by omega), if_pos (by omega)]
      unfold laws_eqMatrix.f
      rw [decide_eq_true ⟨rfl, rfl, rfl, rfl⟩]
      simp only [Option.bind_some, if_true]
      rw [w64 (by omega) (by omega)]
      exact ih k (i + 1) (by omega) (by omega)
  refine ⟨l.length + 1, fun k hk => ?_⟩
  unfold laws_eqMatrixS.f
  rw [if_pos rfl]
  exact go l.length k 0 (by omega) (by omega)

theorem l06Movers_eq (l : List S25) (m : Int) (hl : l.length ≤ 10000000) : ∀ k, l.length + 2 ≤ k → spec_l06Movers.f k l m = some (if l.all mOk = true then (if (l.length : Int) < 1 ∨ (l.length : Int) > m then 2 else 0) else 1) := by
  have go : ∀ (d i k : Nat), i + d = l.length → d < k → spec_l06Movers.l0 k l m i = some (if (l.drop i).all mOk = true then (if (l.length : Int) < 1 ∨ (l.length : Int) > m then 2 else 0) else 1) := by
    intro d
    induction d with
    | zero =>
      intro i k hi hk
      obtain ⟨k, rfl⟩ : ∃ m, k = m + 1 := ⟨k - 1, by omega⟩
      simp only [spec_l06Movers.l0]
      rw [if_neg (by omega), List.drop_eq_nil_of_le (by omega)]
      simp only [List.all_nil, if_true]
      by_cases h1 : (l.length : Int) < 1
      · rw [if_pos h1, if_pos (Or.inl h1)]
      · rw [if_neg h1]
        by_cases h2 : (l.length : Int) > m
        · rw [if_pos h2, if_pos (Or.inr h2)]
        · rw [if_neg h2, if_neg (fun h => h.elim h1 h2)]
    | succ d ih =>
      intro i k hi hk
      obtain ⟨k, rfl⟩ : ∃ m, k = m + 1 := ⟨k - 1, by omega⟩
      simp only [spec_l06Movers.l0]
      rw [if_pos (by omega), if_pos (by omega), rdM l i (by omega), l04Is_eq, all_drop mOk l i (by omega), w64 (by omega) (by omega), show ((i : Int) + 1) = ((i + 1 : Nat) : Int) from by omega, ih (i + 1) k (by omega) (by omega)]
      simp only [Option.bind_some]
      show _ = some (if (decide (PM.isM _ _ _ _) && _) = true then _ else _)
      by_cases h : PM.isM (l[i]'(by omega)).f0.f0 (l[i]'(by omega)).f0.f1 (l[i]'(by omega)).f1.f0 (l[i]'(by omega)).f1.f1
      · rw [decide_eq_true h]; simp
      · rw [decide_eq_false h]; simp
  intro k hk
  have := go l.length 0 k (by omega) (by omega)
  rw [show ((0 : Nat) : Int) = 0 from rfl, List.drop_zero] at this
  exact this

def isX (q : Int × Int × Int × Int × Bool) (x : S25) : Bool := (x.f0.f0 == q.1 && (x.f0.f1 == q.2.1)) && (x.f1.f0 == q.2.2.1 && (x.f1.f1 == q.2.2.2.1))
theorem any_drop {α : Type} (P : α → Bool) (l : List α) (i : Nat) (h : i < l.length) : (l.drop i).any P = (P (l[i]'h) || (l.drop (i + 1)).any P) := by
  rw [List.drop_eq_getElem_cons h]; rfl
theorem l06Matrix_eq (L : List S25) (q : Int × Int × Int × Int × Bool) (hl : L.length ≤ 1000) : ∀ k, L.length + 2 ≤ k → ∃ r, spec_l06Matrix.f k L q.1 q.2.1 q.2.2.1 q.2.2.2.1 = some r ∧ (r < 0 ↔ L.any (isX q) = false) := by
  have go : ∀ (d k i : Nat), i + d = L.length → d < k → ∃ r, spec_l06Matrix.l0 k L i q.1 q.2.1 q.2.2.1 q.2.2.2.1 = some r ∧ (r < 0 ↔ (L.drop i).any (isX q) = false) := by
    intro d
    induction d with
    | zero =>
      intro k i hi hk
      obtain ⟨k, rfl⟩ : ∃ m, k = m + 1 := ⟨k - 1, by omega⟩
      refine ⟨-1, ?_, ?_⟩
      · simp only [spec_l06Matrix.l0]
        rw [if_neg (by omega)]
      · rw [List.drop_eq_nil_of_le (by omega)]; simp
    | succ d ih =>
      intro k i hi hk
      obtain ⟨k, rfl⟩ : ∃ m, k = m + 1 := ⟨k - 1, by omega⟩
      rw [any_drop _ L i (by omega)]
      obtain ⟨r, h1, h2⟩ := ih k (i + 1) (by omega) (by omega)
      simp only [spec_l06Matrix.l0]
      rw [if_pos (by omega), if_pos (by omega), rdM L i (by omega), w64 (by omega) (by omega), show ((i : Int) + 1) = ((i + 1 : Nat) : Int) from by omega, h1]
      have e : (((L[i]'(by omega)).f0.f0 == q.1 && ((L[i]'(by omega)).f0.f1 == q.2.1)) && ((L[i]'(by omega)).f1.f0 == q.2.2.1 && ((L[i]'(by omega)).f1.f1 == q.2.2.2.1))) = isX q (L[i]'(by omega)) := rfl
      rw [e]
      by_cases h : isX q (L[i]'(by omega)) = true
      · refine ⟨i, by rw [if_pos h], ?_⟩
        rw [h]; simp
      · refine ⟨r, by rw [if_neg h], ?_⟩
        rw [Bool.eq_false_iff.mpr h, Bool.false_or]; exact h2
  intro k hk
  obtain ⟨r, h1, h2⟩ := go L.length k 0 (by omega) (by omega)
  exact ⟨r, h1, by rwa [List.drop_zero] at h2⟩

theorem mcontains_eq (L : List S25) (q : Int × Int × Int × Int × Bool) (hl : L.length ≤ 1000) : ∀ k, L.length + 2 ≤ k → impl_Matrix_76.f k L q.1 q.2.1 q.2.2.1 q.2.2.2.1 = some (L.any (isX q)) := by
  have go : ∀ (d k i : Nat), i + d = L.length → d < k → ∃ r, impl_Matrix_94.l0 k L L.length i q.1 q.2.1 q.2.2.1 q.2.2.2.1 = some r ∧ (r ≥ 0 ↔ (L.drop i).any (isX q) = true) := by
    intro d
    induction d with
    | zero =>
      intro k i hi hk
      obtain ⟨k, rfl⟩ : ∃ m, k = m + 1 := ⟨k - 1, by omega⟩
      refine ⟨-1, ?_, ?_⟩
      · simp only [impl_Matrix_94.l0]
        rw [if_neg (by omega)]
      · rw [List.drop_eq_nil_of_le (by omega)]; simp
    | succ d ih =>
      intro k i hi hk
      obtain ⟨k, rfl⟩ : ∃ m, k = m + 1 := ⟨k - 1, by omega⟩
      rw [any_drop _ L i (by omega)]
      obtain ⟨r, h1, h2⟩ := ih k (i + 1) (by omega) (by omega)
      simp only [impl_Matrix_94.l0]
      rw [if_pos (by omega), if_pos (by omega), if_pos (by omega), rdM L i (by omega), w64 (by omega) (by omega), show ((i : Int) + 1) = ((i + 1 : Nat) : Int) from by omega, h1]
      have e : ((q.1 == (L[i]'(by omega)).f0.f0 && (q.2.1 == (L[i]'(by omega)).f0.f1)) && (q.2.2.1 == (L[i]'(by omega)).f1.f0 && (q.2.2.2.1 == (L[i]'(by omega)).f1.f1))) = isX q (L[i]'(by omega)) := by
        unfold isX
        rw [Bool.eq_iff_iff]
        simp only [Bool.and_eq_true, beq_iff_eq]
        exact ⟨fun ⟨⟨a, b⟩, c, d⟩ => ⟨⟨a.symm, b.symm⟩, c.symm, d.symm⟩, fun ⟨⟨a, b⟩, c, d⟩ => ⟨⟨a.symm, b.symm⟩, c.symm, d.symm⟩⟩
      rw [e]
      by_cases h : isX q (L[i]'(by omega)) = true
      · refine ⟨i, by rw [if_pos h], ?_⟩
        rw [h]; simp
      · refine ⟨r, by rw [if_neg h], ?_⟩
        rw [Bool.eq_false_iff.mpr h, Bool.false_or]; exact h2
  intro k hk
  obtain ⟨r, h1, h2⟩ := go L.length k 0 (by omega) (by omega)
  unfold impl_Matrix_76.f impl_Matrix_94.f
  rw [show ((0 : Nat) : Int) = 0 from rfl] at h1
  rw [h1]
  simp only [Option.bind_some]
  rw [List.drop_zero] at h2
  congr 1
  rw [Bool.eq_iff_iff, decide_eq_true_eq]; exact h2

/-- the reduced matrix -/
def rdX (x : S25) : S25 := ⟨⟨(PM.red x.f0.f0 x.f0.f1 x.f1.f0 x.f1.f1).1, (PM.red x.f0.f0 x.f0.f1 x.f1.f0 x.f1.f1).2.1⟩, ⟨(PM.red x.f0.f0 x.f0.f1 x.f1.f0 x.f1.f1).2.2.1, (PM.red x.f0.f0 x.f0.f1 x.f1.f0 x.f1.f1).2.2.2⟩⟩
def prX (x y : S25) : Int × Int × Int × Int × Bool := pr4 x.f0.f0 x.f0.f1 x.f1.f0 x.f1.f1 y.f0.f0 y.f0.f1 y.f1.f0 y.f1.f1
def okX (L : List S25) (x y : S25) : Bool := (prX x y).2.2.2.2 && L.any (isX (prX x y))
theorem redT_of {a b c d e f g h : Int} (q : PM.red a b c d = PM.red e f g h) : redT a b c d = redT e f g h := by unfold redT; rw [q]
theorem prX_rd {x y : S25} (hx : PM.isM x.f0.f0 x.f0.f1 x.f1.f0 x.f1.f1) (hy : PM.isM y.f0.f0 y.f0.f1 y.f1.f0 y.f1.f1) : prX (rdX x) (rdX y) = prX x y :=
  redT_of (PM.red_prod hx.2 hy.2)
theorem rdX_M {x : S25} (hx : PM.isM x.f0.f0 x.f0.f1 x.f1.f0 x.f1.f1) : PM.isM (rdX x).f0.f0 (rdX x).f0.f1 (rdX x).f1.f0 (rdX x).f1.f1 :=
  (PM.red_isM hx.2).mpr (PM.red_small hx)
theorem cl_spec (l L : List S25) (hl : l.length ≤ 1000) (hL : L.length ≤ 1000) (hall : l.all mOk = true) :
    ∀ (d i : Nat), i + d = l.length → ∃ K, ∀ k, K ≤ k → spec_IsClosedList.l1 k l L i = some ((l.drop i).all (fun x => l.all (okX L x)), 0) := by
  intro d
  induction d with
  | zero =>
    intro i hi
    refine ⟨1, fun k hk => ?_⟩
    obtain ⟨k, rfl⟩ : ∃ m, k = m + 1 := ⟨k - 1, by omega⟩
    simp only [spec_IsClosedList.l1]
    rw [if_neg (by omega), List.drop_eq_nil_of_le (by omega)]; rfl
  | succ d ih =>
    intro i hi
    obtain ⟨K1, h1⟩ := ih (i + 1) (by omega)
    have hmi := isM_mem hall (i := i) (by omega)
    have inner : ∀ (e j : Nat), j + e = l.length → ∃ K, ∀ k, K ≤ k → spec_IsClosedList.l2 k l L i j = some ((l.drop j).all (okX L (l[i]'(by omega))) && (l.drop (i + 1)).all (fun x => l.all (okX L x)), 0) := by
      intro e
      induction e with
      | zero =>
        intro j hj
        refine ⟨K1 + 1, fun k hk => ?_⟩
        obtain ⟨k, rfl⟩ : ∃ m, k = m + 1 := ⟨k - 1, by omega⟩
        simp only [spec_IsClosedList.l2]
        rw [if_neg (by omega), w64 (by omega) (by omega), show ((i : Int) + 1) = ((i + 1 : Nat) : Int) from by omega, h1 k (by omega), List.drop_eq_nil_of_le (show l.length ≤ j by omega)]
        simp
      | succ e ihe =>
        intro j hj
        have hmj := isM_mem hall (i := j) (by omega)
        obtain ⟨K2, h2⟩ := ihe (j + 1) (by omega)
        obtain ⟨K3, h3⟩ := l04Times_eq hmi hmj
        refine ⟨K2 + K3 + 1003, fun k hk => ?_⟩
        obtain ⟨k, rfl⟩ : ∃ m, k = m + 1 := ⟨k - 1, by omega⟩
        obtain ⟨r, hr, hr2⟩ := l06Matrix_eq L (prX (l[i]'(by omega)) (l[j]'(by omega))) hL k (by omega)
        simp only [spec_IsClosedList.l2]
        rw [if_pos (by omega), if_pos (by omega), if_pos (by omega), if_pos (by omega), rdM l i (by omega), rdM l j (by omega), h3 k (by omega), all_drop _ l j (by omega)]
        simp only [Option.bind_some]
        show (if (prX (l[i]'(by omega)) (l[j]'(by omega))).2.2.2.2 = true then (spec_l06Matrix.f k L (prX (l[i]'(by omega)) (l[j]'(by omega))).1 (prX (l[i]'(by omega)) (l[j]'(by omega))).2.1 (prX (l[i]'(by omega)) (l[j]'(by omega))).2.2.1 (prX (l[i]'(by omega)) (l[j]'(by omega))).2.2.2.1).bind _ else _) = some (((prX (l[i]'(by omega)) (l[j]'(by omega))).2.2.2.2 && L.any (isX (prX (l[i]'(by omega)) (l[j]'(by omega)))) && _) && _, 0)
        rw [hr]
        simp only [Option.bind_some]
        generalize prX (l[i]'(by omega)) (l[j]'(by omega)) = Q at *
        by_cases c1 : Q.2.2.2.2 = true
        · rw [if_pos c1, c1]
          by_cases c2 : L.any (isX Q) = true
          · rw [if_neg (fun z => by rw [hr2.mp z] at c2; cases c2), c2, w64 (by omega) (by omega), show ((j : Int) + 1) = ((j + 1 : Nat) : Int) from by omega, h2 k (by omega)]
            simp
          · have c2 := Bool.eq_false_iff.mpr c2
            rw [if_pos (hr2.mpr c2), c2]; simp
        · rw [if_neg c1, Bool.eq_false_iff.mpr c1]; simp
    obtain ⟨K4, h4⟩ := inner l.length 0 (by omega)
    refine ⟨K4 + 1, fun k hk => ?_⟩
    obtain ⟨k, rfl⟩ : ∃ m, k = m + 1 := ⟨k - 1, by omega⟩
    simp only [spec_IsClosedList.l1]
    have h4 := h4 k (by omega)
    rw [show ((0 : Nat) : Int) = 0 from rfl, List.drop_zero] at h4
    rw [if_pos (by omega), h4, all_drop _ l i (by omega)]
theorem cl_impl (l : List S25) (hl : l.length ≤ 1000) (hall : l.all mOk = true) :
    ∀ (d i : Nat), i + d = l.length → ∃ K, ∀ k, K ≤ k → impl_IsClosedList.l1 k (l.map rdX) (l.map rdX) l.length i = some ((l.drop i).all (fun x => l.all (okX (l.map rdX) x)), 0) := by
  intro d
  have hlen : (l.map rdX).length = l.length := List.length_map ..
  have hrd : ∀ i (h : i < l.length), rd_T25 (l.map rdX) (i : Int) = rdX (l[i]'h) := fun i h => by
    rw [rdM (l.map rdX) i (by omega), List.getElem_map]
  induction d with
  | zero =>
    intro i hi
    refine ⟨1, fun k hk => ?_⟩
    obtain ⟨k, rfl⟩ : ∃ m, k = m + 1 := ⟨k - 1, by omega⟩
    simp only [impl_IsClosedList.l1]
    rw [if_neg (by omega), List.drop_eq_nil_of_le (by omega)]; rfl
  | succ d ih =>
    intro i hi
    obtain ⟨K1, h1⟩ := ih (i + 1) (by omega)
    have hmi := isM_mem hall (i := i) (by omega)
    have inner : ∀ (e j : Nat), j + e = l.length → ∃ K, ∀ k, K ≤ k → impl_IsClosedList.l2 k (l.map rdX) (l.map rdX) l.length i (l.map rdX) l.length j (rdX (l[i]'(by omega))).f0.f0 (rdX (l[i]'(by omega))).f0.f1 (rdX (l[i]'(by omega))).f1.f0 (rdX (l[i]'(by omega))).f1.f1 = some ((l.drop j).all (okX (l.map rdX) (l[i]'(by omega))) && (l.drop (i + 1)).all (fun x => l.all (okX (l.map rdX) x)), 0) := by
      intro e
      induction e with
      | zero =>
        intro j hj
        refine ⟨K1 + 1, fun k hk => ?_⟩
        obtain ⟨k, rfl⟩ : ∃ m, k = m + 1 := ⟨k - 1, by omega⟩
        simp only [impl_IsClosedList.l2]
        rw [if_neg (by omega), w64 (by omega) (by omega), show ((i : Int) + 1) = ((i + 1 : Nat) : Int) from by omega, h1 k (by omega), List.drop_eq_nil_of_le (show l.length ≤ j by omega)]
        simp
      | succ e ihe =>
        intro j hj
        have hmj := isM_mem hall (i := j) (by omega)
        obtain ⟨K2, h2⟩ := ihe (j + 1) (by omega)
        obtain ⟨K3, h3⟩ := product_eq (rdX_M hmi) (rdX_M hmj)
        refine ⟨K2 + K3 + 1003, fun k hk => ?_⟩
        obtain ⟨k, rfl⟩ : ∃ m, k = m + 1 := ⟨k - 1, by omega⟩
        have hc := mcontains_eq (l.map rdX) (prX (l[i]'(by omega)) (l[j]'(by omega))) (by omega) k (by omega)
        have hpr : pr4 (rdX (l[i]'(by omega))).f0.f0 (rdX (l[i]'(by omega))).f0.f1 (rdX (l[i]'(by omega))).f1.f0 (rdX (l[i]'(by omega))).f1.f1 (rdX (l[j]'(by omega))).f0.f0 (rdX (l[j]'(by omega))).f0.f1 (rdX (l[j]'(by omega))).f1.f0 (rdX (l[j]'(by omega))).f1.f1 = prX (l[i]'(by omega)) (l[j]'(by omega)) := prX_rd hmi hmj
        simp only [impl_IsClosedList.l2]
        rw [if_pos (by omega), if_pos (by omega), if_pos (by omega), hrd j (by omega), h3 k (by omega), all_drop _ l j (by omega), hpr]
        simp only [Option.bind_some]
        rw [hc]
        simp only [Option.bind_some]
        show _ = some (((prX (l[i]'(by omega)) (l[j]'(by omega))).2.2.2.2 && (l.map rdX).any (isX (prX (l[i]'(by omega)) (l[j]'(by omega)))) && _) && _, 0)
        generalize prX (l[i]'(by omega)) (l[j]'(by omega)) = Q at *
        by_cases c1 : Q.2.2.2.2 = true
        · rw [if_pos c1, c1]
          by_cases c2 : (l.map rdX).any (isX Q) = true
          · rw [if_pos c2, c2, w64 (by omega) (by omega), show ((j : Int) + 1) = ((j + 1 : Nat) : Int) from by omega, h2 k (by omega)]
            simp
          · rw [if_neg c2, Bool.eq_false_iff.mpr c2]; simp
        · rw [if_neg c1, Bool.eq_false_iff.mpr c1]; simp
    obtain ⟨K4, h4⟩ := inner l.length 0 (by omega)
    refine ⟨K4 + 1, fun k hk => ?_⟩
    obtain ⟨k, rfl⟩ : ∃ m, k = m + 1 := ⟨k - 1, by omega⟩
    simp only [impl_IsClosedList.l1]
    have h4 := h4 k (by omega)
    rw [show ((0 : Nat) : Int) = 0 from rfl, List.drop_zero] at h4
    rw [if_pos (by omega), if_pos (by omega), if_pos (by omega), hrd i (by omega), show (((l.map rdX).length : Nat) : Int) = l.length by rw [hlen], h4, all_drop _ l i (by omega)]
theorem cl_spec0 (l : List S25) (hl : l.length ≤ 1000) (hall : l.all mOk = true) : ∀ (d i : Nat), i + d = l.length → ∃ K, ∀ k, K ≤ k → spec_IsClosedList.l0 k l ((l.take i).map rdX) i = some (l.all (fun x => l.all (okX (l.map rdX) x)), 0) := by
  intro d
  induction d with
  | zero =>
    intro i hi
    obtain ⟨K, h⟩ := cl_spec l (l.map rdX) hl (by simpa using hl) hall l.length 0 (by omega)
    refine ⟨K + 1, fun k hk => ?_⟩
    obtain ⟨k, rfl⟩ : ∃ m, k = m + 1 := ⟨k - 1, by omega⟩
    simp only [spec_IsClosedList.l0]
    have h := h k (by omega)
    rw [show ((0 : Nat) : Int) = 0 from rfl, List.drop_zero] at h
    rw [if_neg (by omega), List.take_of_length_le (by omega), h]
  | succ d ih =>
    intro i hi
    obtain ⟨K1, h1⟩ := ih (i + 1) (by omega)
    have hm := isM_mem hall (i := i) (by omega)
    have hb := PM.isM_bd hm
    obtain ⟨K2, h2⟩ := l04Reduce_eq (a := (l[i]'(by omega)).f0.f0) (b := (l[i]'(by omega)).f0.f1) (c := (l[i]'(by omega)).f1.f0) (d := (l[i]'(by omega)).f1.f1) (by omega) (by omega) (by omega) (by omega) hm.2
    refine ⟨K1 + K2 + 1, fun k hk => ?_⟩
    obtain ⟨k, rfl⟩ : ∃ m, k = m + 1 := ⟨k - 1, by omega⟩
    simp only [spec_IsClosedList.l0]
    rw [if_pos (by omega), if_pos (by omega), rdM l i (by omega), h2 k (by omega)]
    simp only [Option.bind_some]
    rw [if_pos (by simp; omega), w64 (by omega) (by omega), show ((i : Int) + 1) = ((i + 1 : Nat) : Int) from by omega, ← h1 k (by omega)]
    congr 1
    rw [List.take_succ_eq_append_getElem (by omega), List.map_append]; rfl
theorem cl_impl0 (l : List S25) (hl : l.length ≤ 1000) (hall : l.all mOk = true) : ∀ (d i : Nat), i + d = l.length → ∃ K, ∀ k, K ≤ k → impl_IsClosedList.l0 k ((l.take i).map rdX) l l.length i = some (l.all (fun x => l.all (okX (l.map rdX) x)), 0) := by
  intro d
  induction d with
  | zero =>
    intro i hi
    obtain ⟨K, h⟩ := cl_impl l hl hall l.length 0 (by omega)
    refine ⟨K + 1, fun k hk => ?_⟩
    obtain ⟨k, rfl⟩ : ∃ m, k = m + 1 := ⟨k - 1, by omega⟩
    simp only [impl_IsClosedList.l0]
    have h := h k (by omega)
    rw [show ((0 : Nat) : Int) = 0 from rfl, List.drop_zero] at h
    rw [if_neg (by omega), List.take_of_length_le (by omega), show (((l.map rdX).length : Nat) : Int) = l.length by rw [List.length_map], h]
  | succ d ih =>
    intro i hi
    obtain ⟨K1, h1⟩ := ih (i + 1) (by omega)
    have hm := isM_mem hall (i := i) (by omega)
    obtain ⟨K2, h2⟩ := reduce_eq hm
    refine ⟨K1 + K2 + 1, fun k hk => ?_⟩
    obtain ⟨k, rfl⟩ : ∃ m, k = m + 1 := ⟨k - 1, by omega⟩
    simp only [impl_IsClosedList.l0]
    rw [if_pos (by omega), if_pos (by omega), if_pos (by omega), rdM l i (by omega), h2 k (by omega)]
    simp only [Option.bind_some]
    rw [if_pos (by simp; omega), w64 (by omega) (by omega), show ((i : Int) + 1) = ((i + 1 : Nat) : Int) from by omega, ← h1 k (by omega)]
    congr 1
    rw [List.take_succ_eq_append_getElem (by omega), List.map_append]; rfl


def res (l : List S25) : Bool × Int := if l.all mOk = true then (if (l.length : Int) < 1 ∨ (l.length : Int) > 48 then (false, 2) else (l.all (fun x => l.all (okX (l.map rdX) x)), 0)) else (false, 1)
theorem spec_res (l : List S25) (hl : l.length ≤ 1048576) : ∃ K, ∀ k, K ≤ k → spec_IsClosedList.f k l = some (res l) := by
  by_cases c : l.all mOk = true ∧ ¬ ((l.length : Int) < 1 ∨ (l.length : Int) > 48)
  · obtain ⟨K, h⟩ := cl_spec0 l (by omega) c.1 l.length 0 (by omega)
    refine ⟨K + 1048580, fun k hk => ?_⟩
    unfold spec_IsClosedList.f res
    rw [l06Movers_eq l 48 (by omega) k (by omega), if_pos c.1, if_neg c.2, if_pos c.1, if_neg c.2]
    simp only [Option.bind_some, if_true]
    have h := h k (by omega)
    rw [show ((0 : Nat) : Int) = 0 from rfl, List.take_zero] at h
    exact h
  · refine ⟨1048580, fun k hk => ?_⟩
    unfold spec_IsClosedList.f res
    rw [l06Movers_eq l 48 (by omega) k (by omega)]
    simp only [Option.bind_some]
    by_cases c1 : l.all mOk = true
    · have c2 : (l.length : Int) < 1 ∨ (l.length : Int) > 48 := Decidable.byContradiction fun z => c ⟨c1, z⟩
      rw [if_pos c1, if_pos c1, if_pos c2, if_pos c2, if_neg (by omega)]
    · rw [if_neg c1, if_neg c1, if_neg (by omega)]
theorem impl_res (l : List S25) (hl : l.length ≤ 1048576) : ∃ K, ∀ k, K ≤ k → impl_IsClosedList.f k l = some (res l) := by
  obtain ⟨K0, h0⟩ := areMatrices_eq l (by omega)
  by_cases c : l.all mOk = true ∧ ¬ ((l.length : Int) < 1 ∨ (l.length : Int) > 48)
  · obtain ⟨K, h⟩ := cl_impl0 l (by omega) c.1 l.length 0 (by omega)
    refine ⟨K + K0, fun k hk => ?_⟩
    unfold impl_IsClosedList.f res
    rw [h0 k (by omega), if_pos c.1, if_neg c.2]
    simp only [Option.bind_some]
    rw [if_pos c.1, if_neg (by omega), if_neg (by omega)]
    have h := h k (by omega)
    rw [show ((0 : Nat) : Int) = 0 from rfl, List.take_zero] at h
    exact h
  · refine ⟨K0, fun k hk => ?_⟩
    unfold impl_IsClosedList.f res
    rw [h0 k (by omega)]
    simp only [Option.bind_some]
    by_cases c1 : l.all mOk = true
    · have c2 : (l.length : Int) < 1 ∨ (l.length : Int) > 48 := Decidable.byContradiction fun z => c ⟨c1, z⟩
      rw [if_pos c1, if_pos c1, if_pos c2]
      by_cases c3 : (l.length : Int) < 1
      · rw [if_pos c3]
      · rw [if_neg c3, if_pos (c2.resolve_left c3)]
    · rw [if_neg c1, if_neg c1]
theorem FnExactIsClosedList (l : List S23) (hl : l.length ≤ 9223372036854775807) : ∃ k, laws_FnExactIsClosedList.f k l = some true := by
  by_cases hs : l.length ≤ 1048576
  · obtain ⟨K0, h0⟩ := toMats_eq l hs
    have hm : (l.map cvM).length ≤ 1048576 := by rw [List.length_map]; exact hs
    obtain ⟨K1, h1⟩ := spec_res (l.map cvM) hm
    obtain ⟨K2, h2⟩ := impl_res (l.map cvM) hm
    obtain ⟨K3, h3⟩ := eqMats (l.map cvM) hm
    refine ⟨K0 + K1 + K2 + K3 + 1, ?_⟩
    unfold laws_FnExactIsClosedList.f
    rw [sz_small l hs]
    simp only [Option.bind_some]
    rw [if_neg (by omega), h0 _ (by omega)]
    simp only [Option.bind_some]
    rw [h1 _ (by omega)]
    simp only [Option.bind_some]
    rw [h2 _ (by omega)]
    simp only [Option.bind_some, bne_self_eq_false, laws_FnExactIsClosedList.j0]
    rw [if_neg (by simp), if_neg (by simp), h0 _ (by omega)]
    simp only [Option.bind_some]
    rw [h3 _ (by omega)]
    simp
  · refine ⟨0, ?_⟩
    unfold laws_FnExactIsClosedList.f
    rw [sz_large l hs hl]
    simp only [Option.bind_some]
    rw [if_pos (by omega)]

end Go.Proofs.Ytmhajnfdbjnegaa.Pure
