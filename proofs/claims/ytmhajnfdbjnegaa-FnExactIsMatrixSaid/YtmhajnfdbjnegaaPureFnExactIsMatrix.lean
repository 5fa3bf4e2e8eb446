/- The program's IsMatrix and the reference's return the same, for all arguments: the printed functions' law answers true. -/
import Derived.Test.YtmhajnfdbjnegaaQLFnExactIsMatrix
import Derived.Test.YtmhajnfdbjnegaaMath
set_option linter.unusedVariables false
set_option linter.unusedSimpArgs false
namespace Go.Proofs.Ytmhajnfdbjnegaa.Pure
open Go.RowKit Go.Proofs.Ytmhajnfdbjnegaa.PAll Go.Proofs.YtmhajnfdbjnegaaW.PrintWords Go.Proofs.YtmhajnfdbjnegaaW.PrintLast PM

theorem w64 {n : Int} (h1 : -9223372036854775808 ≤ n) (h2 : n ≤ 9223372036854775807) : wrap64 n = n := by unfold wrap64; omega
theorem wfb {n : Int} (h : (Lit.int .i64 n).wf = true) : -9223372036854775808 ≤ n ∧ n ≤ 9223372036854775807 := by
  simp [Lit.wf, IntKind.min, IntKind.max, IntKind.bits, IntKind.signed] at h; omega
theorem rd_nat (l : List Int) (i : Nat) (h : i < l.length) : l[i]? = some (rd l (i : Int)) := by
  unfold rd; simp [List.getD_eq_getElem?_getD, h]

/-- all numbers of a list have absolute values of at most so much -/
def allB (m : Int) (l : List Int) : Bool := l.all fun x => decide (-m ≤ x ∧ x ≤ m)
theorem allB_drop (m : Int) (l : List Int) (i : Nat) (h : i < l.length) : allB m (l.drop i) = (decide (-m ≤ rd l i ∧ rd l i ≤ m) && allB m (l.drop (i + 1))) := by
  have h1 := rd_nat l i h
  rw [List.getElem?_eq_getElem h] at h1
  rw [List.drop_eq_getElem_cons h, Option.some.inj h1]; rfl
theorem allB_rd {m : Int} {l : List Int} (h : allB m l = true) {i : Int} (h0 : 0 ≤ i) (h1 : i < l.length) : -m ≤ rd l i ∧ rd l i ≤ m := by
  obtain ⟨n, rfl⟩ := Int.eq_ofNat_of_zero_le h0
  have h2 := rd_nat l n (by omega)
  rw [List.getElem?_eq_getElem (by omega)] at h2
  unfold allB at h
  rw [List.all_eq_true] at h
  have := h (l[n]'(by omega)) (List.getElem_mem _)
  rw [Option.some.inj h2] at this
  simpa using this

theorem within_eq (m : Int) (hm : 0 ≤ m) (hm2 : m ≤ 1000000000000000000) (l : List Int) (hl : l.length ≤ 1048576) : ∃ K, ∀ k, K ≤ k → impl_within.f k m l = some (allB m l) := by
  have go : ∀ (d k i : Nat), i + d = l.length → d < k → impl_within.l0 k m l l.length i = some (allB m (l.drop i)) := by
    intro d
    induction d with
    | zero =>
      intro k i h2 h3
      obtain ⟨k, rfl⟩ : ∃ m, k = m + 1 := ⟨k - 1, by omega⟩
      simp only [impl_within.l0]
      rw [if_neg (by omega), List.drop_eq_nil_of_le (by omega)]; rfl
    | succ d ih =>
      intro k i h2 h3
      obtain ⟨k, rfl⟩ : ∃ m, k = m + 1 := ⟨k - 1, by omega⟩
      simp only [impl_within.l0]
      rw [if_pos (by omega), if_pos (by omega), if_pos (by omega), allB_drop _ _ _ (by omega), w64 (n := -m) (by omega) (by omega), w64 (by omega) (by omega)]
      have := ih k (i + 1) (by omega) (by omega)
      rw [show ((i : Int) + 1) = ((i + 1 : Nat) : Int) from by omega, this]
      by_cases h : rd l (i : Int) < -m
      · rw [if_pos h, decide_eq_false (by omega)]; rfl
      · rw [if_neg h]
        by_cases h' : rd l (i : Int) > m
        · rw [if_pos h', decide_eq_false (by omega)]; rfl
        · rw [if_neg h', decide_eq_true (by omega)]; rfl
  exact ⟨l.length + 1, fun k hk => by
    have := go l.length k 0 (by omega) (by omega)
    simpa [impl_within.f] using this⟩

/-- the first child of a place, how many there are, and all of them -/
def fc (p i : Int) : Int := if i = 0 then 1 else p + 2 + (i - 1) * p
def cn (p i : Int) : Int := if i = 0 then p + 1 else p
def kids (p i : Int) (n : Nat) : List Int := (List.range n).map fun j : Nat => fc p i + (j : Int)
theorem fc_bd (p i : Int) (hp : p = 2 ∨ p = 3 ∨ p = 5 ∨ p = 7) (h0 : 0 ≤ i) (h1 : i ≤ 5000) : i < fc p i ∧ 1 ≤ fc p i ∧ fc p i ≤ 40000 ∧ 2 ≤ cn p i ∧ cn p i ≤ 8 ∧ fc p i + cn p i = p * i + p + 2 := by
  unfold fc cn
  rcases hp with rfl | rfl | rfl | rfl <;> split <;> omega
theorem kids_succ (p i : Int) (n : Nat) : kids p i (n + 1) = kids p i n ++ [fc p i + (n : Int)] := by
  unfold kids; rw [List.range_succ, List.map_append]; rfl
theorem kids_length (p i : Int) (n : Nat) : (kids p i n).length = n := by simp [kids]
theorem kids_rd (p i : Int) (n j : Nat) (h : j < n) : rd (kids p i n) (j : Int) = fc p i + (j : Int) := by
  have := rd_nat (kids p i n) j (by rw [kids_length]; exact h)
  simp only [kids, List.getElem?_map] at this
  rw [List.getElem?_range h] at this
  exact (Option.some.inj this).symm

/-- a sum of so many values from a place on -/
def sumC (f : List Int) (a : Int) : Nat → Int → Int
  | 0, s => s
  | n + 1, s => sumC f (a + 1) n (wrap64 (s + rd f a))
theorem place_bd (p i : Int) (hp : p = 2 ∨ p = 3 ∨ p = 5 ∨ p = 7) (h0 : 1 ≤ i) (h1 : i ≤ 5000) : 0 ≤ (if i ≤ p + 1 then 0 else (i - p - 2) / p + 1) ∧ (if i ≤ p + 1 then 0 else (i - p - 2) / p + 1) < i := by
  rcases hp with rfl | rfl | rfl | rfl <;> split <;> omega

theorem all_drop {α : Type} (P : α → Bool) (l : List α) (i : Nat) (h : i < l.length) : (l.drop i).all P = (P (l[i]'h) && (l.drop (i + 1)).all P) := by
  rw [List.drop_eq_getElem_cons h]; rfl
theorem prDef (p : Int) : PM.Pr p = (p = 2 ∨ p = 3 ∨ p = 5 ∨ p = 7) := rfl
theorem tmod_zero_iff (n p : Int) : n.tmod p = 0 ↔ p ∣ n := Int.dvd_iff_tmod_eq_zero.symm

theorem pw_bd (p k : Int) (hp : Pr p) (h : k ≤ 20) : 1 ≤ pw p k ∧ pw p k ≤ 79792266297612001 := by
  have h1 := pw_pos2 hp k
  have h2 := pw_le hp h
  have h3 : pw p 20 ≤ 79792266297612001 := by
    rcases hp with rfl | rfl | rfl | rfl <;> decide +kernel
  omega
theorem pw_bd12 (p k : Int) (hp : Pr p) (h : k ≤ 12) : 1 ≤ pw p k ∧ pw p k ≤ 13841287201 := by
  have h1 := pw_pos2 hp k
  have h2 := pw_le hp h
  have h3 : pw p 12 ≤ 13841287201 := by
    rcases hp with rfl | rfl | rfl | rfl <;> decide +kernel
  omega
theorem pw_bd6 (p k : Int) (hp : Pr p) (h : k ≤ 6) : 1 ≤ pw p k ∧ pw p k ≤ 117649 := by
  have h1 := pw_pos2 hp k
  have h2 := pw_le hp h
  have h3 : pw p 6 ≤ 117649 := by
    rcases hp with rfl | rfl | rfl | rfl <;> decide +kernel
  omega
theorem pw_succ (p k : Int) (h : 0 ≤ k) : pw p (k + 1) = pw p k * p := by
  rw [pw_add h (by omega), pw_one]

theorem mx_neg (a : Int) (h : a.natAbs ≤ 9223372036854775807) : mx a (wrap64 (-a)) = (a.natAbs : Int) := by
  rw [w64 (by omega) (by omega)]; unfold mx; split <;> omega
theorem gcd_tmod (a b : Int) : Int.gcd b (a.tmod b) = Int.gcd a b := by
  have h := Int.gcd_add_mul_left_right b (a.tmod b) (a.tdiv b)
  rw [Int.tmod_add_mul_tdiv] at h
  rw [Int.gcd_comm a b]; exact h.symm

theorem isE_bd {n d : Int} (h : isE n d) : -1000000 ≤ n ∧ n ≤ 1000000 ∧ 0 ≤ d ∧ d ≤ 1000000 := by unfold isE at h; omega
theorem mul_bd {a b : Int} (h1 : -1000000 ≤ a) (h2 : a ≤ 1000000) (h3 : -1000000 ≤ b) (h4 : b ≤ 1000000) : -1000000000000 ≤ a * b ∧ a * b ≤ 1000000000000 := by
  have h : (a * b).natAbs ≤ 1000000 * 1000000 := by rw [Int.natAbs_mul]; exact Nat.mul_le_mul (by omega) (by omega)
  omega
def crs (n1 d1 n2 d2 : Int) : Int := n1 * d2 - n2 * d1
theorem crs_bd {n1 d1 n2 d2 : Int} (h1 : isE n1 d1) (h2 : isE n2 d2) : (crs n1 d1 n2 d2).natAbs ≤ 2000000000000 := by
  have a := isE_bd h1; have b := isE_bd h2
  have c := mul_bd (a := n1) (b := d2) (by omega) (by omega) (by omega) (by omega)
  have d := mul_bd (a := n2) (b := d1) (by omega) (by omega) (by omega) (by omega)
  unfold crs; omega
/-- two ends are the same if their cross is 0 -/
theorem crs_zero {n1 d1 n2 d2 : Int} (h1 : isE n1 d1) (h2 : isE n2 d2) (h : crs n1 d1 n2 d2 = 0) : n1 = n2 ∧ d1 = d2 := by
  unfold crs at h
  rcases h1 with ⟨a1, a2⟩ | ⟨a1, a2, a3, a4, a5⟩
  · rcases h2 with ⟨b1, b2⟩ | ⟨b1, b2, b3, b4, b5⟩
    · omega
    · subst a1 a2; simp at h; omega
  · rcases h2 with ⟨b1, b2⟩ | ⟨b1, b2, b3, b4, b5⟩
    · subst b1 b2; simp at h; omega
    · have e : n1 * d2 = n2 * d1 := by omega
      have e1 : d1 ∣ d2 := PM.dvd_of_dvd_mul_right_of_gcd_one (a := d1) (b := n1) (c := d2) ⟨n2, by rw [e, Int.mul_comm]⟩ (by rw [Int.gcd_comm]; exact a5)
      have e2 : d2 ∣ d1 := PM.dvd_of_dvd_mul_right_of_gcd_one (a := d2) (b := n2) (c := d1) ⟨n1, by rw [← e, Int.mul_comm]⟩ (by rw [Int.gcd_comm]; exact b5)
      have e3 : d1 = d2 := Int.dvd_antisymm (by omega) (by omega) e1 e2
      subst e3
      exact ⟨Int.eq_of_mul_eq_mul_right (by omega) e, rfl⟩

def gapz (p n1 d1 n2 d2 : Int) : Int := (vl p (crs n1 d1 n2 d2) : Int) - vl p d1 - vl p d2

theorem mul_bd2 {a b : Int} (A B : Int) (h1 : -A ≤ a) (h2 : a ≤ A) (h3 : -B ≤ b) (h4 : b ≤ B) : -(A * B) ≤ a * b ∧ a * b ≤ A * B := by
  have hA : 0 ≤ A := by omega
  have hB : 0 ≤ B := by omega
  have h : (a * b).natAbs ≤ A.natAbs * B.natAbs := by
    rw [Int.natAbs_mul]; exact Nat.mul_le_mul (by omega) (by omega)
  rw [← Int.natAbs_mul] at h
  have : 0 ≤ A * B := Int.mul_nonneg hA hB
  omega
theorem mn_min (a b : Int) : mn a b = min a b := by unfold mn; split <;> omega
theorem mx_max (a b : Int) : mx a b = max a b := by unfold mx; split <;> omega
theorem okb {p lv top dn : Int} (h : PM.Ok p ⟨lv, top, dn⟩) : -6 ≤ lv ∧ lv ≤ 6 ∧ 0 ≤ dn ∧ dn ≤ 6 ∧ 0 ≤ top := by
  unfold PM.Ok at h; simp only at h; omega
theorem ok_top {p lv top dn : Int} (hp : Pr p) (h : PM.Ok p ⟨lv, top, dn⟩) : 0 ≤ top ∧ top ≤ 13841287201 := by
  have hb := okb h
  have := pw_bd12 p (lv + dn) hp (by omega)
  unfold PM.Ok at h; simp only at h; omega
theorem mark_bd12 {p lv top dn : Int} (hp : Pr p) (h : PM.Ok p ⟨lv, top, dn⟩) : 0 ≤ PM.mark p ⟨lv, top, dn⟩ ∧ PM.mark p ⟨lv, top, dn⟩ ≤ 13841287201 := by
  have hb := okb h
  have := PM.mark_bd hp h
  have := pw_bd12 p (lv + 6) hp (by omega)
  simp only at *; omega

theorem tmod_fix (a m : Int) (hm : 0 < m) : (a.tmod m + m).tmod m = a % m ∧ -m < a.tmod m ∧ a.tmod m < m := by
  have h1 := Int.tmod_lt_of_pos a hm
  have h2 := Int.lt_tmod_of_pos a hm
  have h3 := Int.mul_tdiv_add_tmod a m
  refine ⟨?_, h2, h1⟩
  rw [Int.tmod_eq_emod_of_nonneg (by omega)]
  rw [show a.tmod m + m = a + m * (1 - a.tdiv m) by rw [Int.mul_sub]; omega, Int.add_mul_emod_self_left]
theorem em_mul (a b m : Int) : (a % m * b) % m = a * b % m := by rw [Int.mul_emod, Int.emod_emod, ← Int.mul_emod]
theorem emb (a m : Int) (hm : 0 < m) : 0 ≤ a % m ∧ a % m < m := ⟨Int.emod_nonneg _ (by omega), Int.emod_lt_of_pos _ hm⟩

theorem vl20 {p n : Int} (hp : Pr p) (h : n ≠ 0) (hb : n.natAbs ≤ 1000000) : vl p n ≤ 19 := by
  have := vl_le hp h (k := 20) (by
    have : (2 : Nat) ^ 20 = 1048576 := by decide
    omega)
  omega
theorem pwvl {p n : Int} (hp : Pr p) (h : n ≠ 0) : 0 < pw p (vl p n) ∧ pw p (vl p n) ≤ (n.natAbs : Int) := by
  refine ⟨pw_pos2 hp _, ?_⟩
  have := Int.le_of_dvd (by omega) (Int.dvd_natAbs.mpr (pw_vl_dvd hp h))
  exact this
theorem un_div {p n : Int} (hp : Pr p) (h : n ≠ 0) : n.tdiv (pw p (vl p n)) = un p n := by
  unfold un; rw [vz_of_ne h, Int.tdiv_eq_ediv_of_dvd (pw_vl_dvd hp h)]
theorem un_bd {p n : Int} (hp : Pr p) (h : n ≠ 0) : (un p n).natAbs ≤ n.natAbs := by
  obtain ⟨e, _⟩ := un_spec hp h
  have h1 := pwvl hp h
  have : n.natAbs = (pw p (vl p n)).natAbs * (un p n).natAbs := by rw [← Int.natAbs_mul, ← e]
  rw [this]
  exact Nat.le_mul_of_pos_left _ (by omega)

def brV (p lv x n d : Int) : Int := if d = 0 ∨ PM.turn p lv x n d < lv then 0 else 1 + (PM.dv p x n d / pw p (lv + 6 + vl p d)) * inv (un p d) p % p
theorem un_mul_pw {p n k : Int} (hp : Pr p) (hn : n ≠ 0) (hk : 0 ≤ k) : un p (pw p k * n) = un p n ∧ (vl p (pw p k * n) : Int) = k + vl p n := by
  have hq := pw_pos2 hp k
  have hv : (vl p (pw p k * n) : Int) = k + vl p n := by
    rw [vl_mul hp (by omega) hn]; have := PM.vl_pw hp k hk; omega
  refine ⟨?_, hv⟩
  unfold un
  rw [vz_of_ne (Int.mul_ne_zero (by omega) hn), hv, vz_of_ne hn, pw_add hk (by omega), Int.mul_ediv_mul_of_pos _ _ hq]
theorem turn_held {p lv x n d : Int} (hd : d ≠ 0) : ¬ PM.turn p lv x n d < lv ↔ (PM.dv p x n d = 0 ∨ lv + 6 + (vl p d : Int) ≤ vl p (PM.dv p x n d)) := by
  unfold PM.turn
  by_cases z : PM.dv p x n d = 0
  · rw [if_pos z]; omega
  · rw [if_neg z]; omega
theorem dv_bd {p x n d : Int} (hp : Pr p) (hx : 0 ≤ x ∧ x ≤ 13841287201) (he : isE n d) : (PM.dv p x n d).natAbs ≤ 15000000000000000 := by
  have hE := isE_bd he
  have h6 := pw_bd6 p 6 hp (by omega)
  have m1 := mul_bd2 (a := n) (b := pw p 6) 1000000 117649 (by omega) (by omega) (by omega) (by omega)
  have m2 := mul_bd2 (a := x) (b := d) 13841287201 1000000 (by omega) (by omega) (by omega) (by omega)
  unfold PM.dv; omega
theorem pwq {p lv d : Int} (hp : Pr p) (hd : d ≠ 0) (hb : d.natAbs ≤ 1000000) (hl : -6 ≤ lv ∧ lv ≤ 6) : 1 ≤ pw p (lv + 6 + vl p d) ∧ pw p (lv + 6 + vl p d) ≤ 13841287201 * 1000000 := by
  have h1 := pwvl hp hd
  have h2 := pw_bd12 p (lv + 6) hp (by omega)
  rw [pw_add (by omega) (by omega)]
  have h3 := mul_bd2 (a := pw p (lv + 6)) (b := pw p (vl p d)) 13841287201 1000000 (by omega) (by omega) (by omega) (by omega)
  have h4 := Int.mul_pos (show 0 < pw p (lv + 6) by omega) h1.1
  omega
theorem held_dvd {p lv x n d : Int} (hp : Pr p) (hd : d ≠ 0) (hl : -6 ≤ lv) (h : ¬ PM.turn p lv x n d < lv) : pw p (lv + 6 + vl p d) ∣ PM.dv p x n d := by
  rcases (turn_held hd).mp h with z | z
  · rw [z]; exact Int.dvd_zero _
  · by_cases z0 : PM.dv p x n d = 0
    · rw [z0]; exact Int.dvd_zero _
    · exact (le_vl_iff' hp z0 (by omega)).mp z

def enc : Option PM.Ball → Int × Int × Int × Bool
  | none => (0, 0, 0, false)
  | some b => (b.lv, b.top, b.dn, true)
def encC (c : Int) : Option PM.Ball → Int × Int × Int × Int
  | none => (0, 0, 0, c)
  | some b => (b.lv, b.top, b.dn, 0)

theorem about_ok {p l x : Int} {b : PM.Ball} (hp : Pr p) (h : PM.about p l x = some b) : PM.Ok p b ∧ b.lv = l ∧ PM.inLv l ∧ PM.mark p b = x % pw p (l + 6) := by
  unfold PM.about at h
  by_cases hl : PM.inLv l
  · rw [if_pos hl] at h
    obtain rfl := Option.some.inj h
    have hl' := hl
    unfold PM.inLv at hl'
    have hq := pw_pos2 hp (l + 6)
    obtain ⟨o1, o2⟩ := PM.ok_mk hp hl'.1 hl'.2 (Int.emod_nonneg x (b := pw p (l + 6)) (by omega)) (Int.emod_lt_of_pos x hq)
    exact ⟨o1, rfl, hl, o2⟩
  · rw [if_neg hl] at h; cases h
theorem brV_bd {p lv x n d : Int} (hp : Pr p) : 0 ≤ brV p lv x n d ∧ brV p lv x n d ≤ p := by
  have hpp := hp.pos
  unfold brV
  by_cases c : d = 0 ∨ PM.turn p lv x n d < lv
  · rw [if_pos c]; omega
  · rw [if_neg c]
    obtain ⟨a, b⟩ := emb (PM.dv p x n d / pw p (lv + 6 + vl p d) * inv (un p d) p) p (by omega)
    omega
/-- the next ball by a number: 0 for the parent -/
def nb (p : Int) (b : PM.Ball) (k : Int) : Option PM.Ball := if k = 0 then PM.about p (b.lv - 1) (PM.mark p b) else PM.about p (b.lv + 1) (PM.mark p b + (k - 1) * pw p (b.lv + 6))
theorem nb_ok {p k : Int} {b c : PM.Ball} (hp : Pr p) (h : nb p b k = some c) : PM.Ok p c := by
  unfold nb at h
  by_cases z : k = 0
  · rw [if_pos z] at h; exact (about_ok hp h).1
  · rw [if_neg z] at h; exact (about_ok hp h).1

theorem dets {a b c d : Int} (ha : a.natAbs ≤ 1000) (hb : b.natAbs ≤ 1000) (hc : c.natAbs ≤ 1000) (hd : d.natAbs ≤ 1000) : wrap64 (wrap64 (a * d) - wrap64 (b * c)) = a * d - b * c ∧ (a * d - b * c).natAbs ≤ 2000000 := by
  have h1 : (a * d).natAbs ≤ 1000000 := by rw [Int.natAbs_mul]; have := Nat.mul_le_mul ha hd; omega
  have h2 : (b * c).natAbs ≤ 1000000 := by rw [Int.natAbs_mul]; have := Nat.mul_le_mul hb hc; omega
  rw [w64 (n := a * d) (by omega) (by omega), w64 (n := b * c) (by omega) (by omega), w64 (by omega) (by omega)]
  exact ⟨rfl, by omega⟩
theorem l04Is_eq (a b c d : Int) : spec_l04Is.f a b c d = some (decide (PM.isM a b c d)) := by
  unfold spec_l04Is.f
  congr 1
  rw [Bool.eq_iff_iff]
  simp only [decide_eq_true_eq]
  unfold PM.isM
  constructor
  · rintro ⟨h1, h2, h3, h4, h5⟩
    rw [(dets (a := a) (b := b) (c := c) (d := d) (by omega) (by omega) (by omega) (by omega)).1] at h5
    exact ⟨⟨h1, h2, h3, h4⟩, h5⟩
  · rintro ⟨⟨h1, h2, h3, h4⟩, h5⟩
    refine ⟨h1, h2, h3, h4, ?_⟩
    rw [(dets (a := a) (b := b) (c := c) (d := d) (by omega) (by omega) (by omega) (by omega)).1]
    exact h5

theorem IsMatrix_eq (a b c d : Int) : ∃ K, ∀ k, K ≤ k → impl_IsMatrix.f k a b c d = some (decide (PM.isM a b c d)) := by
  obtain ⟨K, hw⟩ := within_eq 1000 (by omega) (by omega) [a, b, c, d] (by simp)
  have ew : allB 1000 [a, b, c, d] = decide ((-1000 ≤ a ∧ a ≤ 1000) ∧ (-1000 ≤ b ∧ b ≤ 1000) ∧ (-1000 ≤ c ∧ c ≤ 1000) ∧ (-1000 ≤ d ∧ d ≤ 1000)) := by simp [allB]
  refine ⟨K, fun k hk => ?_⟩
  unfold impl_IsMatrix.f
  rw [hw k hk, ew]
  simp only [Option.bind_some]
  by_cases h : (-1000 ≤ a ∧ a ≤ 1000) ∧ (-1000 ≤ b ∧ b ≤ 1000) ∧ (-1000 ≤ c ∧ c ≤ 1000) ∧ (-1000 ≤ d ∧ d ≤ 1000)
  · rw [decide_eq_true h, if_pos rfl]
    unfold impl_determinant.f
    simp only [Option.bind_some]
    rw [(dets (a := a) (b := b) (c := c) (d := d) (by omega) (by omega) (by omega) (by omega)).1]
    congr 1
    rw [Bool.eq_iff_iff]
    simp only [bne_iff_ne, decide_eq_true_eq]
    unfold PM.isM
    exact ⟨fun z => ⟨h, z⟩, fun z => z.2⟩
  · rw [decide_eq_false h, if_neg (by simp), decide_eq_false]
    exact fun z => h z.1


theorem FnExactIsMatrix (a b c d : Int) (_ : (Lit.int .i64 a).wf = true) (_ : (Lit.int .i64 b).wf = true) (_ : (Lit.int .i64 c).wf = true) (_ : (Lit.int .i64 d).wf = true) : ∃ k, laws_FnExactIsMatrix.f k a b c d = some true := by
  obtain ⟨K, h⟩ := IsMatrix_eq a b c d
  refine ⟨K, ?_⟩
  unfold laws_FnExactIsMatrix.f laws_toMatrix.f spec_IsMatrix.f
  simp only [Option.bind_some, l04Is_eq, h K (Nat.le_refl _)]
  simp

end Go.Proofs.Ytmhajnfdbjnegaa.Pure
