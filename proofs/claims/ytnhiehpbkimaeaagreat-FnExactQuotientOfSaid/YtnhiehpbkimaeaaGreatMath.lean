/- Plain mathematics: valuations, powers, balls told by their marks. -/
namespace PM
def Pr (p : Int) : Prop := p = 2 ∨ p = 3 ∨ p = 5 ∨ p = 7
instance (p : Int) : Decidable (Pr p) := by unfold Pr; infer_instance
theorem Pr.pos {p : Int} (h : Pr p) : 2 ≤ p := by unfold Pr at h; omega
theorem Pr.le {p : Int} (h : Pr p) : p ≤ 7 := by unfold Pr at h; omega
theorem pw_pos {p : Int} (h : Pr p) (k : Nat) : 0 < p ^ k := Int.pow_pos (by have := h.pos; omega)
theorem pow_mono {p : Int} (h : 1 ≤ p) {a b : Nat} (hab : a ≤ b) : p ^ a ≤ p ^ b := by
  obtain ⟨c, rfl⟩ := Nat.exists_eq_add_of_le hab
  rw [Int.pow_add]
  have h1 : 0 < p ^ a := Int.pow_pos (by omega)
  have h2 : 0 < p ^ c := Int.pow_pos (by omega)
  have : p ^ a * 1 ≤ p ^ a * p ^ c := Int.mul_le_mul_of_nonneg_left (by omega) (by omega)
  omega
theorem ek {p : Int} {a b : Nat} (hab : a ≤ b) : p ^ a ∣ p ^ b := by
  obtain ⟨c, rfl⟩ := Nat.exists_eq_add_of_le hab
  rw [Int.pow_add]; exact Int.dvd_mul_right ..
theorem gcd_one {p : Int} (hp : Pr p) {a : Int} (h : ¬ p ∣ a) : Int.gcd p a = 1 := by
  have h1 : (Int.gcd p a : Int) ∣ p := Int.gcd_dvd_left ..
  have h2 : (Int.gcd p a : Int) ∣ a := Int.gcd_dvd_right ..
  have h3 : Int.gcd p a ≠ 0 := by
    intro h0; rw [h0] at h1; have := Int.zero_dvd.1 h1; have := hp.pos; omega
  have h4 : (Int.gcd p a : Int) ≤ p := Int.le_of_dvd (by have := hp.pos; omega) h1
  generalize hg : Int.gcd p a = g at *
  have hc : g = 1 ∨ (g : Int) = p := by
    unfold Pr at hp
    rcases hp with rfl | rfl | rfl | rfl <;> 
      (have : g ≤ 7 := by omega) <;>
      (match g, this with
        | 0, _ => omega | 1, _ => omega | 2, _ => omega | 3, _ => omega | 4, _ => omega | 5, _ => omega | 6, _ => omega | 7, _ => omega)
  rcases hc with h | hc
  · exact h
  · rw [hc] at h2; exact absurd h2 h
theorem dvd_of_dvd_mul_right_of_gcd_one {a b c : Int} (h : a ∣ b * c) (hg : Int.gcd a b = 1) : a ∣ c := by
  have h1 : a.natAbs ∣ b.natAbs * c.natAbs := by rw [← Int.natAbs_mul]; exact Int.natAbs_dvd_natAbs.2 h
  have h2 : a.natAbs ∣ c.natAbs := Nat.Coprime.dvd_of_dvd_mul_left (n := c.natAbs) (m := b.natAbs) (k := a.natAbs) hg h1
  exact Int.natAbs_dvd_natAbs.1 h2
theorem fM {p : Int} (hp : Pr p) {a b : Int} (h : p ∣ a * b) : p ∣ a ∨ p ∣ b := by
  by_cases ha : p ∣ a
  · exact Or.inl ha
  · exact Or.inr (dvd_of_dvd_mul_right_of_gcd_one h (gcd_one hp ha))
theorem not_dvd_mul {p : Int} (hp : Pr p) {a b : Int} (ha : ¬ p ∣ a) (hb : ¬ p ∣ b) : ¬ p ∣ a * b := fun h => (fM hp h).elim ha hb
theorem dY {p : Int} (hp : Pr p) {u : Int} (hu : ¬ p ∣ u) : ∀ (k : Nat) {a : Int}, p ^ k ∣ a * u → p ^ k ∣ a
  | 0, a, _ => by simp
  | k + 1, a, h => by
    have h1 : p ∣ a * u := Int.dvd_trans ⟨p ^ k, by rw [Int.pow_succ, Int.mul_comm]⟩ h
    rcases fM hp h1 with ⟨c, rfl⟩ | h2
    · have h3 : p ^ k ∣ c * u := by
        rw [Int.pow_succ, Int.mul_comm, Int.mul_assoc] at h
        exact Int.dvd_of_mul_dvd_mul_left (by have := hp.pos; omega) h
      rw [Int.pow_succ, Int.mul_comm]
      exact Int.mul_dvd_mul_left _ (dY hp hu k h3)
    · exact absurd h2 hu
theorem pow_dvd_mul_unit_iff {p : Int} (hp : Pr p) {u : Int} (hu : ¬ p ∣ u) (k : Nat) {a : Int} : p ^ k ∣ a * u ↔ p ^ k ∣ a :=
  ⟨dY hp hu k, fun h => Int.dvd_mul_of_dvd_left h⟩
theorem eU {p : Int} (hp : Pr p) (k j : Nat) {a : Int} : p ^ (k + j) ∣ p ^ j * a ↔ p ^ k ∣ a := by
  rw [Nat.add_comm, Int.pow_add]
  exact Int.mul_dvd_mul_iff_left (by have := pw_pos hp j; omega)
def vF (p : Int) : Nat → Int → Nat
  | 0, _ => 0
  | k + 1, n => if p ∣ n then vF p k (n / p) + 1 else 0
def vl (p n : Int) : Nat := vF p n.natAbs n
theorem vF_spec {p : Int} (hp : Pr p) : ∀ (k : Nat) (n : Int), n ≠ 0 → n.natAbs ≤ k → p ^ (vF p k n) ∣ n ∧ ¬ p ^ (vF p k n + 1) ∣ n
  | 0, n, h0, h => by omega
  | k + 1, n, h0, h => by
    unfold vF
    split
    · rename_i hd
      obtain ⟨c, rfl⟩ := hd
      have hp2 := hp.pos
      have hc : c ≠ 0 := by intro h; subst h; simp at h0
      have e : p * c / p = c := Int.mul_ediv_cancel_left _ (by omega)
      rw [e]
      have hle : c.natAbs ≤ k := by
        have : (p * c).natAbs = p.natAbs * c.natAbs := Int.natAbs_mul ..
        have : 2 * c.natAbs ≤ p.natAbs * c.natAbs := Nat.mul_le_mul_right _ (by omega)
        omega
      obtain ⟨h1, h2⟩ := vF_spec hp k c hc hle
      constructor
      · rw [Int.pow_succ, Int.mul_comm]; exact Int.mul_dvd_mul_left _ h1
      · intro h3; apply h2
        rw [Int.pow_succ, Int.mul_comm] at h3
        exact Int.dvd_of_mul_dvd_mul_left (by omega) h3
    · rename_i hd
      exact ⟨by simp, by simpa [Int.pow_one] using hd⟩
theorem vl_dvd {p : Int} (hp : Pr p) {n : Int} (h : n ≠ 0) : p ^ (vl p n) ∣ n := (vF_spec hp _ n h (Nat.le_refl _)).1
theorem vl_not {p : Int} (hp : Pr p) {n : Int} (h : n ≠ 0) : ¬ p ^ (vl p n + 1) ∣ n := (vF_spec hp _ n h (Nat.le_refl _)).2
theorem dZ {p : Int} (hp : Pr p) {n : Int} (h : n ≠ 0) (k : Nat) : k ≤ vl p n ↔ p ^ k ∣ n := by
  constructor
  · intro hk; exact Int.dvd_trans (ek hk) (vl_dvd hp h)
  · intro hk
    refine Decidable.byContradiction fun hlt => vl_not hp h ?_
    exact Int.dvd_trans (ek (by omega)) hk
theorem vl_unique {p : Int} (hp : Pr p) {n : Int} (h : n ≠ 0) {k : Nat} (h1 : p ^ k ∣ n) (h2 : ¬ p ^ (k + 1) ∣ n) : vl p n = k := by
  have a := (dZ hp h k).2 h1
  have b : ¬ (k + 1 ≤ vl p n) := fun hh => h2 ((dZ hp h (k + 1)).1 hh)
  omega
theorem fT {p : Int} (hp : Pr p) {n : Int} (h : n ≠ 0) : ∃ u, n = p ^ (vl p n) * u ∧ ¬ p ∣ u ∧ u ≠ 0 := by
  obtain ⟨u, hu⟩ := vl_dvd hp h
  refine ⟨u, hu, ?_, ?_⟩
  · intro ⟨c, hc⟩
    exact vl_not hp h ⟨c, by rw [Int.pow_succ, Int.mul_assoc, ← hc]; exact hu⟩
  · intro h0; subst h0; simp at hu; exact h hu
theorem eX {p : Int} (hp : Pr p) {u : Int} (hu : ¬ p ∣ u) (k : Nat) : vl p (p ^ k * u) = k := by
  have hk := pw_pos hp k
  have hu0 : u ≠ 0 := by intro h; subst h; simp at hu
  apply vl_unique hp
  · exact Int.mul_ne_zero (by omega) hu0
  · exact Int.dvd_mul_right ..
  · intro h
    have : p ^ (1 + k) ∣ p ^ k * u := by rw [Nat.add_comm]; exact h
    rw [eU hp 1 k] at this
    rw [Int.pow_one] at this; exact hu this
theorem dT {p : Int} (hp : Pr p) {a b : Int} (ha : a ≠ 0) (hb : b ≠ 0) : vl p (a * b) = vl p a + vl p b := by
  obtain ⟨u, hu, hu1, _⟩ := fT hp ha
  obtain ⟨v, hv, hv1, _⟩ := fT hp hb
  have : a * b = p ^ (vl p a + vl p b) * (u * v) := by
    rw [Int.pow_add]; conv => lhs; rw [hu, hv]
    grind
  rw [this]
  exact eX hp (not_dvd_mul hp hu1 hv1) _
theorem vl_pow {p : Int} (hp : Pr p) (k : Nat) : vl p (p ^ k) = k := by
  have := eX hp (u := 1) (by intro h; have := Int.le_of_dvd (by omega) h; have := hp.pos; omega) k
  simpa using this
theorem vl_neg (p : Int) (n : Int) (hp : Pr p) : vl p (-n) = vl p n := by
  by_cases h : n = 0
  · subst h; rfl
  · apply vl_unique hp (by omega)
    · exact (Int.dvd_neg).2 (vl_dvd hp h)
    · intro h2; exact vl_not hp h ((Int.dvd_neg).1 h2)
theorem d4 {p : Int} (hp : Pr p) {n : Int} (h : n ≠ 0) : vl p n = 0 ↔ ¬ p ∣ n := by
  have := dZ hp h 1
  rw [Int.pow_one] at this
  constructor
  · intro h0 h1; have := this.2 h1; omega
  · intro h1; rcases Nat.eq_zero_or_pos (vl p n) with h | h2
    · exact h
    · exact absurd (this.1 h2) h1
theorem vl_lt_of_abs {p : Int} (hp : Pr p) {n : Int} (h : n ≠ 0) {k : Nat} (hk : n.natAbs < p ^ k) : vl p n < k := by
  refine Decidable.byContradiction fun hlt => ?_
  have h1 := (dZ hp h k).1 (by omega)
  have h2 : p ^ k ∣ (n.natAbs : Int) := Int.dvd_natAbs.2 h1
  have h3 := Int.le_of_dvd (by omega) h2
  omega
end PM
namespace PM
def pw (p k : Int) : Int := p ^ k.toNat
theorem bW {p : Int} (hp : Pr p) (k : Int) : 0 < pw p k := pw_pos hp _
theorem pw_add {p : Int} {a b : Int} (ha : 0 ≤ a) (hb : 0 ≤ b) : pw p (a + b) = pw p a * pw p b := by
  unfold pw; rw [← Int.pow_add]; congr 1; omega
theorem ei {p : Int} {a b : Int} (h : a ≤ b) : pw p a ∣ pw p b := ek (by omega)
theorem fd {p : Int} (hp : Pr p) {a b : Int} (h : a ≤ b) : pw p a ≤ pw p b := pow_mono (by have := hp.pos; omega) (by omega)
theorem pw_zero (p : Int) : pw p 0 = 1 := by simp [pw]
theorem pw_one (p : Int) : pw p 1 = p := by simp [pw, Int.pow_one]
theorem du {p : Int} (hp : Pr p) {k j : Int} (hk : 0 ≤ k) (hj : 0 ≤ j) {a : Int} : pw p (k + j) ∣ pw p j * a ↔ pw p k ∣ a := by
  unfold pw; rw [show (k + j).toNat = k.toNat + j.toNat from by omega]; exact eU hp _ _
def vz (p n : Int) : Int := if n = 0 then 1000 else (vl p n : Int)
theorem vz_nonneg (p n : Int) : 0 ≤ vz p n := by unfold vz; split <;> omega
theorem ba {p n : Int} (h : n ≠ 0) : vz p n = (vl p n : Int) := by simp [vz, h]
theorem dX {p : Int} (hp : Pr p) {n : Int} (h : n ≠ 0) : pw p (vl p n) ∣ n := by
  have := vl_dvd hp h; simpa [pw] using this
theorem dP {p : Int} (hp : Pr p) {n : Int} (h : n ≠ 0) {k : Int} (hk : 0 ≤ k) : k ≤ (vl p n : Int) ↔ pw p k ∣ n := by
  have := dZ hp h k.toNat; unfold pw; rw [← this]; omega
structure Ball where
  lv : Int
  top : Int
  dn : Int
deriving DecidableEq
def Ok (p : Int) (b : Ball) : Prop :=
  -6 ≤ b.lv ∧ b.lv ≤ 6 ∧ 0 ≤ b.dn ∧ b.dn ≤ 6 ∧
  ((b.lv + b.dn ≤ 0 ∧ b.top = 0 ∧ b.dn = 0) ∨ (0 < b.lv + b.dn ∧ 0 ≤ b.top ∧ b.top < pw p (b.lv + b.dn) ∧ (b.dn = 0 ∨ ¬ p ∣ b.top)))
instance (p : Int) (b : Ball) : Decidable (Ok p b) := by unfold Ok; infer_instance
def mark (p : Int) (b : Ball) : Int := b.top * pw p (6 - b.dn)
def mk (p lv x : Int) : Ball :=
  let d := max (6 - vz p x) 0
  ⟨lv, x / pw p (6 - d), d⟩
theorem mark_bd {p : Int} (hp : Pr p) {b : Ball} (h : Ok p b) : 0 ≤ mark p b ∧ mark p b < pw p (b.lv + 6) := by
  obtain ⟨h1, h2, h3, h4, h5⟩ := h
  unfold mark
  have hpos := bW hp (6 - b.dn)
  rcases h5 with ⟨h5, h6, h7⟩ | ⟨h5, h6, h7, h8⟩
  · rw [h6]; simp; exact bW hp _
  · constructor
    · exact Int.mul_nonneg h6 (by omega)
    · have : pw p (b.lv + 6) = pw p (b.lv + b.dn) * pw p (6 - b.dn) := by
        rw [← pw_add (by omega) (by omega)]; congr 1; omega
      rw [this]
      exact Int.mul_lt_mul_of_pos_right h7 hpos
theorem vz_mul_pw {p : Int} (hp : Pr p) {u : Int} (hu : ¬ p ∣ u) {k : Int} (hk : 0 ≤ k) : vz p (u * pw p k) = k := by
  have hpos := bW hp k
  have hu0 : u ≠ 0 := by intro h; subst h; simp at hu
  rw [ba (Int.mul_ne_zero hu0 (by omega)), Int.mul_comm]
  unfold pw; rw [eX hp hu]; omega
theorem ff {p : Int} (hp : Pr p) {b : Ball} (h : Ok p b) : mk p b.lv (mark p b) = b := by
  obtain ⟨lv, top, dn⟩ := b
  obtain ⟨h1, h2, h3, h4, h5⟩ := h
  simp only at h1 h2 h3 h4 h5
  unfold mk mark
  simp only
  have hpos := bW hp (6 - dn)
  by_cases h0 : top = 0
  · subst h0
    have hd : dn = 0 := by
      rcases h5 with ⟨_, _, h7⟩ | ⟨_, _, _, h8⟩
      · exact h7
      · rcases h8 with h8 | h8
        · exact h8
        · simp at h8
    subst hd
    simp only [vz, if_true, Int.zero_mul, Int.zero_ediv]
    rw [show max ((6 : Int) - 1000) 0 = 0 from by omega]
  · rcases h5 with ⟨_, h6, _⟩ | ⟨h5, h6, h7, h8⟩
    · exact absurd h6 h0
    · rcases h8 with h8 | h8
      · subst h8
        have hm : max (6 - vz p (top * pw p (6 - 0))) 0 = 0 := by
          have hne : top * pw p (6 - 0) ≠ 0 := Int.mul_ne_zero h0 (by omega)
          have : (6 : Int) ≤ vl p (top * pw p (6 - 0)) := by
            rw [dP hp hne (by omega)]
            exact Int.dvd_mul_left ..
          rw [ba hne]; omega
        rw [hm]
        rw [Int.mul_ediv_cancel _ (by omega)]
      · rw [vz_mul_pw hp h8 (by omega)]
        have hm : max (6 - (6 - dn)) 0 = dn := by omega
        rw [hm, Int.mul_ediv_cancel _ (by omega)]
theorem ok_mk {p : Int} (hp : Pr p) {lv x : Int} (h1 : -6 ≤ lv) (h2 : lv ≤ 6) (h3 : 0 ≤ x) (h4 : x < pw p (lv + 6)) : Ok p (mk p lv x) ∧ mark p (mk p lv x) = x := by
  unfold mk mark Ok
  simp only
  by_cases h0 : x = 0
  · subst h0
    simp only [vz, if_true, Int.zero_ediv]
    rw [show max ((6 : Int) - 1000) 0 = 0 from by omega]
    refine ⟨⟨h1, h2, by omega, by omega, ?_⟩, by simp⟩
    by_cases h : lv ≤ 0
    · exact Or.inl ⟨by omega, by simp⟩
    · exact Or.inr ⟨by omega, by omega, bW hp _, Or.inl rfl⟩
  · have hv := ba (p := p) h0
    by_cases h6 : 6 ≤ vz p x
    · have hm : max (6 - vz p x) 0 = 0 := by omega
      rw [hm]
      have hd : pw p 6 ∣ x := by rw [← dP hp h0 (by omega)]; omega
      have hp6 := bW hp 6
      have hlv : 0 < lv := by
        refine Decidable.byContradiction fun hn => ?_
        have := Int.le_of_dvd (by omega) hd
        have := fd hp (a := lv + 6) (b := 6) (by omega)
        omega
      have hq : x / pw p 6 * pw p 6 = x := Int.ediv_mul_cancel hd
      refine ⟨⟨h1, h2, by omega, by omega, Or.inr ⟨by omega, ?_, ?_, Or.inl rfl⟩⟩, ?_⟩
      · exact Int.ediv_nonneg h3 (by simpa using Int.le_of_lt hp6)
      · simp only [Int.sub_zero, Int.add_zero]
        rw [pw_add (by omega) (by omega)] at h4
        rw [Int.ediv_lt_iff_lt_mul hp6]; exact h4
      · simpa using hq
    · have hm : max (6 - vz p x) 0 = 6 - vz p x := by omega
      rw [hm]
      have e6 : 6 - (6 - vz p x) = vz p x := by omega
      rw [e6]
      have hvn := vz_nonneg p x
      have hpp := bW hp (vz p x)
      have hd : pw p (vz p x) ∣ x := by rw [hv]; exact dX hp h0
      have hq : x / pw p (vz p x) * pw p (vz p x) = x := Int.ediv_mul_cancel hd
      have hlt : vz p x < lv + 6 := by
        refine Decidable.byContradiction fun hn => ?_
        have := Int.le_of_dvd (by omega) hd
        have := fd hp (a := lv + 6) (b := vz p x) (by omega)
        omega
      refine ⟨⟨h1, h2, by omega, by omega, Or.inr ⟨by omega, ?_, ?_, Or.inr ?_⟩⟩, hq⟩
      · exact Int.ediv_nonneg h3 (Int.le_of_lt hpp)
      · rw [Int.ediv_lt_iff_lt_mul hpp, ← pw_add (by omega) (by omega)]
        rw [show lv + (6 - vz p x) + vz p x = lv + 6 from by omega]; exact h4
      · intro ⟨c, hc⟩
        have : pw p (vz p x + 1) ∣ x := by
          rw [pw_add hvn (by omega), pw_one]
          rw [hc] at hq
          exact ⟨c, by rw [← hq]; grind⟩
        rw [← dP hp h0 (by omega)] at this
        omega
theorem ball_ext_mark {p : Int} (hp : Pr p) {b c : Ball} (hb : Ok p b) (hc : Ok p c) (hl : b.lv = c.lv) (hm : mark p b = mark p c) : b = c := by
  rw [← ff hp hb, ← ff hp hc, hl, hm]
def Res (p lv num den r : Int) : Prop := 0 ≤ r ∧ r < pw p (lv + 6) ∧ pw p (lv + 6 + vl p den) ∣ num * pw p 6 - r * den
theorem res_unique {p : Int} (hp : Pr p) {lv num den r s : Int} (hlv : -6 ≤ lv) (hd : den ≠ 0) (hr : Res p lv num den r) (hs : Res p lv num den s) : r = s := by
  obtain ⟨r1, r2, r3⟩ := hr
  obtain ⟨s1, s2, s3⟩ := hs
  have h1 := Int.dvd_sub r3 s3
  obtain ⟨u, hu, hu1, _⟩ := fT hp hd
  have h2 : num * pw p 6 - r * den - (num * pw p 6 - s * den) = pw p (vl p den) * ((s - r) * u) := by
    have : den = pw p (vl p den) * u := by simpa [pw] using hu
    generalize pw p (vl p den) = q at *
    subst this; grind
  rw [h2, du hp (by omega) (by omega)] at h1
  have h3 : pw p (lv + 6) ∣ s - r := dY hp hu1 _ h1
  have h4 : s - r = 0 := by
    refine Decidable.byContradiction fun hne => ?_
    have h5 : pw p (lv + 6) ∣ ((s - r).natAbs : Int) := Int.dvd_natAbs.2 h3
    have := Int.le_of_dvd (by omega) h5
    omega
  omega
end PM
namespace PM
def invF : Nat → Int → Int → Int → Int → Int
  | 0, _, _, x, _ => x
  | k + 1, a, b, x, y => if b = 0 then x else invF k b (a - a / b * b) y (x - a / b * y)
structure Inv (n m a b x y : Int) : Prop where
  a0 : 0 ≤ a
  b0 : 0 ≤ b
  ca : m ∣ a - x * n
  cb : m ∣ b - y * n
  sg : (0 ≤ x ∧ y ≤ 0) ∨ (x ≤ 0 ∧ 0 ≤ y)
  sz : a * (y.natAbs : Int) + b * (x.natAbs : Int) = m
theorem Inv.step {n m a b x y : Int} (h : Inv n m a b x y) (hb : b ≠ 0) : Inv n m b (a - a / b * b) y (x - a / b * y) := by
  obtain ⟨a0, b0, ca, cb, sg, sz⟩ := h
  have hq : 0 ≤ a / b := Int.ediv_nonneg a0 b0
  have hr : a - a / b * b = a % b := by rw [Int.emod_def, Int.mul_comm b]
  have hr0 : 0 ≤ a % b := Int.emod_nonneg _ hb
  refine ⟨b0, by omega, cb, ?_, ?_, ?_⟩
  · have := Int.dvd_sub ca (Int.dvd_mul_of_dvd_right (b := a / b) cb)
    have e : a - x * n - a / b * (b - y * n) = a - a / b * b - (x - a / b * y) * n := by grind
    rwa [e] at this
  · rcases sg with ⟨h1, h2⟩ | ⟨h1, h2⟩
    · refine Or.inr ⟨h2, ?_⟩
      have : a / b * y ≤ 0 := Int.mul_nonpos_of_nonneg_of_nonpos hq h2
      omega
    · refine Or.inl ⟨h2, ?_⟩
      have : 0 ≤ a / b * y := Int.mul_nonneg hq h2
      omega
  · rcases sg with ⟨h1, h2⟩ | ⟨h1, h2⟩
    · have h3 : a / b * y ≤ 0 := Int.mul_nonpos_of_nonneg_of_nonpos hq h2
      rw [Int.natAbs_of_nonneg (show 0 ≤ x - a / b * y by omega)]
      rw [Int.ofNat_natAbs_of_nonpos h2] at sz ⊢
      rw [Int.natAbs_of_nonneg h1] at sz
      grind
    · have h3 : 0 ≤ a / b * y := Int.mul_nonneg hq h2
      rw [Int.ofNat_natAbs_of_nonpos (show x - a / b * y ≤ 0 by omega)]
      rw [Int.natAbs_of_nonneg h2] at sz ⊢
      rw [Int.ofNat_natAbs_of_nonpos h1] at sz
      grind
theorem Inv.start {n m : Int} (hn : 0 ≤ n) (hm : 0 ≤ m) : Inv n m n m 1 0 :=
  ⟨hn, hm, by simp, by simp, Or.inl ⟨by omega, by omega⟩, by simp⟩
theorem Inv.bd {n m a b x y : Int} (h : Inv n m a b x y) : (0 < b → x.natAbs ≤ m) ∧ (0 < a → y.natAbs ≤ m) ∧ a ≤ max n a ∧ (0 < b → 0 ≤ a / b * (y.natAbs : Int) ∧ a / b * (y.natAbs : Int) ≤ m) := by
  obtain ⟨a0, b0, ca, cb, sg, sz⟩ := h
  have h1 : 0 ≤ a * (y.natAbs : Int) := Int.mul_nonneg a0 (by omega)
  have h2 : 0 ≤ b * (x.natAbs : Int) := Int.mul_nonneg b0 (by omega)
  refine ⟨fun hb => ?_, fun ha => ?_, by omega, fun hb => ?_⟩
  · have : 1 * (x.natAbs : Int) ≤ b * (x.natAbs : Int) := Int.mul_le_mul_of_nonneg_right (by omega) (by omega)
    omega
  · have : 1 * (y.natAbs : Int) ≤ a * (y.natAbs : Int) := Int.mul_le_mul_of_nonneg_right (by omega) (by omega)
    omega
  · have hq : 0 ≤ a / b := Int.ediv_nonneg a0 b0
    have hle : a / b ≤ a := Int.ediv_le_self _ a0
    have : a / b * (y.natAbs : Int) ≤ a * (y.natAbs : Int) := Int.mul_le_mul_of_nonneg_right hle (by omega)
    exact ⟨Int.mul_nonneg hq (by omega), by omega⟩
theorem invF_spec {n m : Int} : ∀ (k : Nat) (a b x y : Int), Inv n m a b x y → b < k → m ∣ (Int.gcd a b : Int) - invF k a b x y * n
  | 0, a, b, x, y, h, hk => by have := h.b0; omega
  | k + 1, a, b, x, y, h, hk => by
    unfold invF
    split
    · rename_i hb; subst hb
      have := h.ca
      rw [Int.gcd_zero_right, Int.natAbs_of_nonneg h.a0]; exact this
    · rename_i hb
      have h2 := h.step hb
      have h3 : a - a / b * b = a % b := by rw [Int.emod_def, Int.mul_comm b]
      have hlt : a % b < b := Int.emod_lt_of_pos _ (by have := h.b0; omega)
      have := invF_spec k b (a - a / b * b) y (x - a / b * y) h2 (by omega)
      rw [h3] at this ⊢
      have e : Int.gcd b (a % b) = Int.gcd a b := by
        rw [Int.gcd_comm a b]
        unfold Int.gcd
        rw [show (a % b).natAbs = a.natAbs % b.natAbs from Int.natAbs_emod_of_nonneg h.a0 b]
        rw [Nat.gcd_comm b.natAbs, ← Nat.gcd_rec, Nat.gcd_comm]
      rwa [e] at this
end PM
namespace PM
def inv (n m : Int) : Int := invF (m.toNat + 2) (n % m) m 1 0 % m
theorem inv_spec {n m : Int} (hm : 0 < m) (hg : Int.gcd n m = 1) : m ∣ 1 - inv n m * n := by
  have h0 : 0 ≤ n % m := Int.emod_nonneg _ (by omega)
  have h := invF_spec (n := n % m) (m := m) (m.toNat + 2) (n % m) m 1 0 (Inv.start h0 (by omega)) (by omega)
  have e : Int.gcd (n % m) m = 1 := by
    rw [← hg]
    have := Int.gcd_add_mul_left_left m (n % m) (n / m)
    rw [Int.emod_add_mul_ediv] at this
    exact this.symm
  rw [e] at h
  unfold inv
  generalize invF (m.toNat + 2) (n % m) m 1 0 = r at *
  have h1 : m ∣ r - r % m := Int.dvd_self_sub_emod
  have h2 : m ∣ n - n % m := Int.dvd_self_sub_emod
  obtain ⟨c, hc⟩ := h
  obtain ⟨d, hd⟩ := h1
  obtain ⟨e, he⟩ := h2
  refine ⟨c - r * e + d * n, ?_⟩
  have : (1 : Int) = m * c + r * (n % m) := by have := hc; simp at this; omega
  have hn : n % m = n - m * e := by omega
  have hr : r % m = r - m * d := by omega
  rw [hr]
  rw [hn] at this
  grind
def un (p n : Int) : Int := n / pw p (vz p n)
theorem eL {p n : Int} (hp : Pr p) (h : n ≠ 0) : n = pw p (vl p n) * un p n ∧ ¬ p ∣ un p n := by
  obtain ⟨u, hu, hu1, _⟩ := fT hp h
  have hk := pw_pos hp (vl p n)
  have e : un p n = u := by
    unfold un pw; rw [ba h]; simp only [Int.toNat_natCast]
    conv => lhs; lhs; rw [hu]
    exact Int.mul_ediv_cancel_left _ (by omega)
  rw [e]; exact ⟨by simpa [pw] using hu, hu1⟩
theorem gcd_pw {p u : Int} (hp : Pr p) (hu : ¬ p ∣ u) (k : Int) : Int.gcd u (pw p k) = 1 := by
  have := gcd_one hp hu
  rw [Int.gcd_comm] at this
  exact Int.gcd_pow_right_of_gcd_eq_one this
def Fits (p num den : Int) : Prop := num = 0 ∨ -6 ≤ vz p num - vz p den
instance (p num den : Int) : Decidable (Fits p num den) := by unfold Fits; infer_instance
def inLv (n : Int) : Prop := -6 ≤ n ∧ n ≤ 6
instance (n : Int) : Decidable (inLv n) := by unfold inLv; infer_instance
def ballAt (p num den lv : Int) : Option Ball :=
  if ¬ inLv lv then none else
  if num = 0 ∨ lv ≤ vz p num - vz p den then some ⟨lv, 0, 0⟩ else
  if vz p num - vz p den < -6 then none else
  some (mk p lv ((un p num * inv (un p den) (pw p (lv + 6))) % pw p (lv + 6) * pw p (vz p num - vz p den + 6) % pw p (lv + 6)))
def lOf (p num den lv : Int) : Option Ball :=
  if ¬ inLv lv then none else
  if num = 0 then some ⟨lv, 0, 0⟩ else
  if lv ≤ vz p num - vz p den then some ⟨lv, 0, 0⟩ else
  if 6 < max (vz p den - vz p num) 0 then none else
  let d := max (vz p den - vz p num) 0
  some ⟨lv, (un p num * inv (un p den) (pw p (lv + d))) % pw p (lv + d) * pw p (max (vz p num - vz p den) 0) % pw p (lv + d), d⟩
def dV (p num den lv : Int) : Option Ball → Prop
  | none => ¬ inLv lv ∨ ¬ Fits p num den
  | some b => inLv lv ∧ Fits p num den ∧ Ok p b ∧ b.lv = lv ∧ Res p lv num den (mark p b)
theorem dV.unique {p num den lv : Int} (hp : Pr p) (hd : den ≠ 0) {a b : Option Ball} (ha : dV p num den lv a) (hb : dV p num den lv b) : a = b := by
  cases a with
  | none => cases b with
    | none => rfl
    | some b => obtain ⟨h1, h2, _⟩ := hb; rcases ha with ha | ha <;> contradiction
  | some a => cases b with
    | none => obtain ⟨h1, h2, _⟩ := ha; rcases hb with hb | hb <;> contradiction
    | some b =>
      obtain ⟨h1, h2, h3, h4, h5⟩ := ha
      obtain ⟨g1, g2, g3, g4, g5⟩ := hb
      rw [ball_ext_mark hp h3 g3 (by omega) (res_unique hp h1.1 hd h5 g5)]
theorem zero_ball {p num den lv : Int} (hp : Pr p) (hl : inLv lv) (h : num = 0 ∨ lv ≤ vz p num - vz p den) (hd : den ≠ 0) : dV p num den lv (some ⟨lv, 0, 0⟩) := by
  refine ⟨hl, ?_, ?_, rfl, ?_, ?_, ?_⟩
  · rcases h with h | h
    · exact Or.inl h
    · exact Or.inr (by have := hl.1; omega)
  · refine ⟨hl.1, hl.2, by simp, by simp, ?_⟩
    by_cases h0 : lv ≤ 0
    · exact Or.inl ⟨by simpa using h0, rfl, rfl⟩
    · exact Or.inr ⟨by simp; omega, by simp, bW hp _, Or.inl rfl⟩
  · simp [mark]
  · simp [mark]; exact bW hp _
  · simp only [mark, Int.zero_mul, Int.sub_zero]
    by_cases h0 : num = 0
    · subst h0; simp
    · have h1 : lv ≤ vz p num - vz p den := h.resolve_left h0
      rw [ba h0, ba hd] at h1
      have h2 : pw p (vl p num) ∣ num := dX hp h0
      have h3 : pw p (vl p num + 6) ∣ num * pw p 6 := by
        rw [pw_add (by omega) (by omega)]; exact Int.mul_dvd_mul_right _ h2
      exact Int.dvd_trans (ei (by omega)) h3
theorem quot_spec {p u v : Int} (hp : Pr p) (hv : ¬ p ∣ v) (k : Int) (c : Int) : pw p k ∣ u * c - (u * inv v (pw p k) % pw p k * c % pw p k) * v := by
  have hm := bW hp k
  have h1 := inv_spec hm (gcd_pw hp hv k)
  generalize pw p k = m at *
  generalize inv v m = i at *
  have h2 : m ∣ u * i % m * c - u * i % m * c % m := Int.dvd_self_sub_emod
  have h3 : m ∣ u * i - u * i % m := Int.dvd_self_sub_emod
  obtain ⟨a, ha⟩ := h1
  obtain ⟨b, hb⟩ := h2
  obtain ⟨d, hd⟩ := h3
  refine ⟨u * c * a + b * v + d * c * v, ?_⟩
  have e1 : u * i % m * c % m = u * i % m * c - m * b := by omega
  have e2 : u * i % m = u * i - m * d := by omega
  rw [e1, e2]
  have : i * v = 1 - m * a := by omega
  grind
theorem eK {p num den lv : Int} (hp : Pr p) (hd : den ≠ 0) : dV p num den lv (ballAt p num den lv) := by
  unfold ballAt
  by_cases hl : inLv lv
  · rw [if_neg (by simpa using hl)]
    by_cases h1 : num = 0 ∨ lv ≤ vz p num - vz p den
    · rw [if_pos h1]; exact zero_ball hp hl h1 hd
    · rw [if_neg h1]
      have hn : num ≠ 0 := fun h => h1 (Or.inl h)
      by_cases h2 : vz p num - vz p den < -6
      · rw [if_pos h2]
        refine Or.inr fun hf => ?_
        rcases hf with hf | hf
        · exact hn hf
        · omega
      · rw [if_neg h2]
        have hl1 := hl.1
        have hm := bW hp (lv + 6)
        have hx := quot_spec hp (u := un p num) (eL hp hd).2 (lv + 6) (pw p (vz p num - vz p den + 6))
        have hx0 := Int.emod_nonneg (un p num * inv (un p den) (pw p (lv + 6)) % pw p (lv + 6) * pw p (vz p num - vz p den + 6)) (b := pw p (lv + 6)) (by omega)
        have hx1 := Int.emod_lt_of_pos (un p num * inv (un p den) (pw p (lv + 6)) % pw p (lv + 6) * pw p (vz p num - vz p den + 6)) hm
        generalize un p num * inv (un p den) (pw p (lv + 6)) % pw p (lv + 6) * pw p (vz p num - vz p den + 6) % pw p (lv + 6) = x at *
        have hok := ok_mk hp hl.1 hl.2 hx0 hx1
        refine ⟨hl, Or.inr (by omega), hok.1, rfl, ?_⟩
        rw [hok.2]
        refine ⟨hx0, hx1, ?_⟩
        have e1 := (eL hp hn).1
        have e2 := (eL hp hd).1
        have e3 : num * pw p 6 = pw p (vl p den) * (un p num * pw p (vz p num - vz p den + 6)) := by
          have : pw p (vl p num) * pw p 6 = pw p (vl p den) * pw p (vz p num - vz p den + 6) := by
            rw [ba hn, ba hd] at *
            rw [← pw_add (by omega) (by omega), ← pw_add (by omega) (by omega)]; congr 1; omega
          conv => lhs; rw [e1]
          grind
        have e4 : num * pw p 6 - x * den = pw p (vl p den) * (un p num * pw p (vz p num - vz p den + 6) - x * un p den) := by
          rw [e3]; conv => lhs; rhs; rw [e2]
          grind
        rw [e4, du hp (by omega) (by omega)]
        exact hx
  · rw [if_pos hl]; exact Or.inl hl
theorem lOf_is {p num den lv : Int} (hp : Pr p) (hd : den ≠ 0) : dV p num den lv (lOf p num den lv) := by
  unfold lOf
  by_cases hl : inLv lv
  · rw [if_neg (by simpa using hl)]
    by_cases hn : num = 0
    · rw [if_pos hn]; exact zero_ball hp hl (Or.inl hn) hd
    · rw [if_neg hn]
      by_cases h1 : lv ≤ vz p num - vz p den
      · rw [if_pos h1]; exact zero_ball hp hl (Or.inr h1) hd
      · rw [if_neg h1]
        by_cases h2 : 6 < max (vz p den - vz p num) 0
        · rw [if_pos h2]
          refine Or.inr fun hf => ?_
          rcases hf with hf | hf
          · exact hn hf
          · omega
        · rw [if_neg h2]
          simp only
          obtain ⟨d, hdd⟩ : ∃ d, max (vz p den - vz p num) 0 = d := ⟨_, rfl⟩
          obtain ⟨f, hff⟩ : ∃ f, max (vz p num - vz p den) 0 = f := ⟨_, rfl⟩
          rw [hdd, hff]
          have hl1 := hl.1
          have hl2 := hl.2
          have hm := bW hp (lv + d)
          have hx := quot_spec hp (u := un p num) (eL hp hd).2 (lv + d) (pw p f)
          have hx0 := Int.emod_nonneg (un p num * inv (un p den) (pw p (lv + d)) % pw p (lv + d) * pw p f) (b := pw p (lv + d)) (by omega)
          have hx1 := Int.emod_lt_of_pos (un p num * inv (un p den) (pw p (lv + d)) % pw p (lv + d) * pw p f) hm
          generalize un p num * inv (un p den) (pw p (lv + d)) % pw p (lv + d) * pw p f % pw p (lv + d) = x at *
          have e1 := (eL hp hn)
          have e2 := (eL hp hd)
          refine ⟨hl, Or.inr (by omega), ⟨hl1, hl2, by simp only; omega, by simp only; omega, Or.inr ⟨by simp only; omega, hx0, hx1, ?_⟩⟩, rfl, ?_⟩
          · by_cases h0 : d = 0
            · exact Or.inl h0
            · refine Or.inr fun hdx => ?_
              have hf0 : f = 0 := by omega
              subst hf0
              rw [pw_zero, Int.mul_one] at hx
              have hpm : p ∣ pw p (lv + d) := by
                have := ei (p := p) (a := 1) (b := lv + d) (by omega)
                rwa [pw_one] at this
              have h3 := Int.dvd_trans hpm hx
              have h4 : p ∣ un p num := (Int.dvd_iff_dvd_of_dvd_sub h3).2 (Int.dvd_mul_of_dvd_left hdx)
              exact e1.2 h4
          · have hbd : 0 ≤ x * pw p (6 - d) ∧ x * pw p (6 - d) < pw p (lv + 6) := by
              have hq := bW hp (6 - d)
              constructor
              · exact Int.mul_nonneg hx0 (by omega)
              · have : pw p (lv + 6) = pw p (lv + d) * pw p (6 - d) := by
                  rw [← pw_add (by omega) (by omega)]; congr 1; omega
                rw [this]; exact Int.mul_lt_mul_of_pos_right hx1 hq
            refine ⟨hbd.1, hbd.2, ?_⟩
            unfold mark
            simp only
            have e3 : num * pw p 6 = pw p (6 - d + vl p den) * (un p num * pw p f) := by
              have : pw p (vl p num) * pw p 6 = pw p (6 - d + vl p den) * pw p f := by
                rw [ba hn, ba hd] at *
                rw [← pw_add (by omega) (by omega), ← pw_add (by omega) (by omega)]; congr 1; omega
              conv => lhs; rw [e1.1]
              grind
            have e4 : num * pw p 6 - x * pw p (6 - d) * den = pw p (6 - d + vl p den) * (un p num * pw p f - x * un p den) := by
              rw [e3]
              conv => lhs; rhs; rw [e2.1]
              rw [pw_add (by omega) (by omega)]
              grind
            rw [e4, show lv + 6 + (vl p den : Int) = (lv + d) + (6 - d + vl p den) from by omega, du hp (by omega) (by omega)]
            exact hx
  · rw [if_pos hl]; exact Or.inl hl
theorem ballAt_eq_lOf {p num den lv : Int} (hp : Pr p) (hd : den ≠ 0) : ballAt p num den lv = lOf p num den lv :=
  (eK hp hd).unique hp hd (lOf_is hp hd)
end PM
namespace PM
theorem vl_one {p : Int} (hp : Pr p) : vl p p = 1 := by
  have := vl_pow hp 1; rwa [Int.pow_one] at this
theorem vl_step {p n : Int} (hp : Pr p) (h : n ≠ 0) (hd : p ∣ n) : n.tdiv p ≠ 0 ∧ vl p n = vl p (n.tdiv p) + 1 ∧ (n.tdiv p).natAbs ≤ n.natAbs := by
  have hp2 := hp.pos
  obtain ⟨c, rfl⟩ := hd
  have e : (p * c).tdiv p = c := Int.mul_tdiv_cancel_left c (by omega)
  have hc : c ≠ 0 := by intro h0; subst h0; simp at h
  rw [e]
  refine ⟨hc, by rw [dT hp (by omega) hc, vl_one hp]; omega, ?_⟩
  rw [Int.natAbs_mul]
  have : 1 * c.natAbs ≤ p.natAbs * c.natAbs := Nat.mul_le_mul_right _ (by omega)
  omega
theorem vl_le {p n : Int} (hp : Pr p) (h : n ≠ 0) {k : Nat} (hk : n.natAbs < 2 ^ k) : vl p n < k := by
  refine vl_lt_of_abs hp h ?_
  have h1 : (2 : Int) ^ k ≤ p ^ k := by
    have hp2 := hp.pos
    clear hk
    induction k with
    | zero => simp
    | succ k ih =>
      rw [Int.pow_succ, Int.pow_succ]
      have h0 : (0 : Int) < 2 ^ k := Int.pow_pos (by omega)
      have a := Int.mul_le_mul_of_nonneg_left hp2 (Int.le_of_lt h0)
      have b := Int.mul_le_mul_of_nonneg_right ih (show (0 : Int) ≤ p by omega)
      omega
  have h2 : ((2 ^ k : Nat) : Int) = (2 : Int) ^ k := by simp
  omega
theorem cz {p n : Int} (hp : Pr p) (h : n ≠ 0) (hk : n.natAbs ≤ 9223372036854775808) : vl p n ≤ 63 := by
  have := vl_le hp h (k := 64) (by
    have : (2 : Nat) ^ 64 = 18446744073709551616 := by decide
    omega)
  omega
def isE (n d : Int) : Prop := (d = 0 ∧ n = 1) ∨ (1 ≤ d ∧ d ≤ 1000000 ∧ -1000000 ≤ n ∧ n ≤ 1000000 ∧ Int.gcd n d = 1)
instance (n d : Int) : Decidable (isE n d) := by unfold isE; infer_instance
end PM
namespace PM
theorem ultr {p a b c : Int} (hp : Pr p) (hc : c ≠ 0) (e : a - b = c) (k : Nat) (ha : a = 0 ∨ k ≤ vl p a) (hb : b = 0 ∨ k ≤ vl p b) : k ≤ vl p c := by
  rw [dZ hp hc, ← e]
  have g : ∀ x : Int, (x = 0 ∨ k ≤ vl p x) → p ^ k ∣ x := by
    intro x h
    by_cases z : x = 0
    · subst z; exact Int.dvd_zero _
    · exact (dZ hp z k).mp (h.resolve_left z)
  exact Int.dvd_sub (g a ha) (g b hb)
theorem ultr_lt {p a b c : Int} (hp : Pr p) (hc : c ≠ 0) (e : a - b = c) (hb : b ≠ 0) (h : a = 0 ∨ vl p b < vl p a) : vl p c = vl p b := by
  have h1 := ultr hp hc e (vl p b) (h.imp id Nat.le_of_lt) (Or.inr (Nat.le_refl _))
  have h2 : ¬ vl p b + 1 ≤ vl p c := by
    intro h3
    have := ultr (a := a) (b := c) (c := b) hp hb (by omega) (vl p b + 1) (h.imp id (fun z => z)) (Or.inr h3)
    omega
  omega
def dv (p x num den : Int) : Int := num * pw p 6 - x * den
def turn (p lv x num den : Int) : Int := if dv p x num den = 0 then lv else min lv ((vl p (dv p x num den) : Int) - vl p den - 6)
def cr (n1 d1 n2 d2 : Int) : Int := n1 * d2 - n2 * d1
theorem turn_le (p lv x n d : Int) : turn p lv x n d ≤ lv := by
  unfold turn; split <;> omega
theorem dv_cr (p x n1 d1 n2 d2 : Int) : dv p x n1 d1 * d2 - dv p x n2 d2 * d1 = pw p 6 * cr n1 d1 n2 d2 := by
  unfold dv cr
  simp only [Int.sub_mul, Int.mul_sub]
  rw [show n1 * pw p 6 * d2 = pw p 6 * (n1 * d2) by rw [Int.mul_comm n1, Int.mul_assoc], show n2 * pw p 6 * d1 = pw p 6 * (n2 * d1) by rw [Int.mul_comm n2, Int.mul_assoc], show x * d2 * d1 = x * d1 * d2 by rw [Int.mul_assoc, Int.mul_assoc, Int.mul_comm d2]]
  omega
theorem vl_pw {p : Int} (hp : Pr p) (k : Int) (h : 0 ≤ k) : (vl p (pw p k) : Int) = k := by
  unfold pw; rw [vl_pow hp]; omega
theorem gap_turn {p lv x n1 d1 n2 d2 : Int} (hp : Pr p) (h1 : d1 ≠ 0) (h2 : d2 ≠ 0) (hc : cr n1 d1 n2 d2 ≠ 0) :
    (turn p lv x n1 d1 = turn p lv x n2 d2 → turn p lv x n1 d1 ≤ (vl p (cr n1 d1 n2 d2) : Int) - vl p d1 - vl p d2) ∧
    (turn p lv x n2 d2 < turn p lv x n1 d1 → (vl p (cr n1 d1 n2 d2) : Int) - vl p d1 - vl p d2 = turn p lv x n2 d2) ∧
    (turn p lv x n1 d1 < turn p lv x n2 d2 → (vl p (cr n1 d1 n2 d2) : Int) - vl p d1 - vl p d2 = turn p lv x n1 d1) := by
  have e := dv_cr p x n1 d1 n2 d2
  have hq : pw p 6 ≠ 0 := by have := bW hp 6; omega
  have hC : pw p 6 * cr n1 d1 n2 d2 ≠ 0 := Int.mul_ne_zero hq hc
  have eC : (vl p (pw p 6 * cr n1 d1 n2 d2) : Int) = 6 + vl p (cr n1 d1 n2 d2) := by
    rw [dT hp hq hc]; have := vl_pw hp 6 (by omega); omega
  have ea : dv p x n1 d1 ≠ 0 → vl p (dv p x n1 d1 * d2) = vl p (dv p x n1 d1) + vl p d2 := fun z => dT hp z h2
  have eb : dv p x n2 d2 ≠ 0 → vl p (dv p x n2 d2 * d1) = vl p (dv p x n2 d2) + vl p d1 := fun z => dT hp z h1
  have za : dv p x n1 d1 = 0 → dv p x n1 d1 * d2 = 0 := fun z => by rw [z, Int.zero_mul]
  have zb : dv p x n2 d2 = 0 → dv p x n2 d2 * d1 = 0 := fun z => by rw [z, Int.zero_mul]
  have na : dv p x n1 d1 ≠ 0 → dv p x n1 d1 * d2 ≠ 0 := fun z => Int.mul_ne_zero z h2
  have nb : dv p x n2 d2 ≠ 0 → dv p x n2 d2 * d1 ≠ 0 := fun z => Int.mul_ne_zero z h1
  have both : ¬ (dv p x n1 d1 = 0 ∧ dv p x n2 d2 = 0) := by
    rintro ⟨u, v⟩; rw [za u, zb v] at e; omega
  have e' : dv p x n2 d2 * d1 - dv p x n1 d1 * d2 = - (pw p 6 * cr n1 d1 n2 d2) := by omega
  have hC' : - (pw p 6 * cr n1 d1 n2 d2) ≠ 0 := by omega
  have eN := vl_neg p (pw p 6 * cr n1 d1 n2 d2) hp
  refine ⟨fun h => ?_, fun h => ?_, fun h => ?_⟩
  · unfold turn at h ⊢
    by_cases u : dv p x n1 d1 = 0
    · have v : dv p x n2 d2 ≠ 0 := fun v => both ⟨u, v⟩
      rw [if_pos u] at h ⊢; rw [if_neg v] at h
      have := ultr hp hC e (vl p (dv p x n2 d2 * d1)) (Or.inl (za u)) (Or.inr (Nat.le_refl _))
      have := eb v; omega
    · by_cases v : dv p x n2 d2 = 0
      · rw [if_neg u] at h ⊢; rw [if_pos v] at h
        have := ultr hp hC e (vl p (dv p x n1 d1 * d2)) (Or.inr (Nat.le_refl _)) (Or.inl (zb v))
        have := ea u; omega
      · rw [if_neg u] at h ⊢; rw [if_neg v] at h
        have := ultr hp hC e (min (vl p (dv p x n1 d1 * d2)) (vl p (dv p x n2 d2 * d1))) (Or.inr (by omega)) (Or.inr (by omega))
        have := ea u; have := eb v; omega
  · unfold turn at h ⊢
    by_cases v : dv p x n2 d2 = 0
    · rw [if_pos v] at h; exfalso; split at h <;> omega
    · rw [if_neg v] at h ⊢
      by_cases u : dv p x n1 d1 = 0
      · rw [if_pos u] at h
        have := ultr_lt hp hC e (nb v) (Or.inl (za u)); have := eb v; omega
      · rw [if_neg u] at h
        have := ultr_lt hp hC e (nb v) (Or.inr (by have := ea u; have := eb v; omega)); have := eb v; omega
  · unfold turn at h ⊢
    by_cases v : dv p x n1 d1 = 0
    · rw [if_pos v] at h; exfalso; split at h <;> omega
    · rw [if_neg v] at h ⊢
      by_cases u : dv p x n2 d2 = 0
      · rw [if_pos u] at h
        have := ultr_lt hp hC' e' (na v) (Or.inl (zb u)); have := ea v; omega
      · rw [if_neg u] at h
        have := ultr_lt hp hC' e' (na v) (Or.inr (by have := eb u; have := ea v; omega)); have := ea v; omega
theorem dv_down {p : Int} (_ : Pr p) {b : Ball} (h : Ok p b) (n d : Int) : dv p (mark p b) n d = pw p (6 - b.dn) * (n * pw p b.dn - b.top * d) := by
  have hd : 0 ≤ b.dn ∧ b.dn ≤ 6 := by unfold Ok at h; omega
  unfold dv mark
  rw [show (6 : Int) = (6 - b.dn) + b.dn by omega, pw_add (by omega) (by omega), show (6 - b.dn + b.dn - b.dn) = 6 - b.dn by omega, Int.mul_sub]
  rw [show n * (pw p (6 - b.dn) * pw p b.dn) = pw p (6 - b.dn) * (n * pw p b.dn) by rw [← Int.mul_assoc, Int.mul_comm n, Int.mul_assoc], show b.top * pw p (6 - b.dn) * d = pw p (6 - b.dn) * (b.top * d) by rw [Int.mul_comm b.top, Int.mul_assoc]]
theorem turn_down {p : Int} (hp : Pr p) {b : Ball} (h : Ok p b) (n d : Int) : turn p b.lv (mark p b) n d = if n * pw p b.dn - b.top * d = 0 then b.lv else min b.lv ((vl p (n * pw p b.dn - b.top * d) : Int) - vl p d - b.dn) := by
  have hd : 0 ≤ b.dn ∧ b.dn ≤ 6 := by unfold Ok at h; omega
  unfold turn
  rw [dv_down hp h]
  have hq : pw p (6 - b.dn) ≠ 0 := by have := bW hp (6 - b.dn); omega
  by_cases z : n * pw p b.dn - b.top * d = 0
  · rw [z, if_pos (by simp), if_pos rfl]
  · rw [if_neg (Int.mul_ne_zero hq z), if_neg z, dT hp hq z]
    have := vl_pw hp (6 - b.dn) (by omega)
    omega
end PM
namespace PM
theorem mulN (q y1 y0 : Int) : q * (y1 * 4294967296 + y0) = (q * y1) * 4294967296 + q * y0 := by rw [Int.mul_add, Int.mul_assoc]
def dig (U u y1 y0 : Int) : Int := (U * 4294967296 + u) / (y1 * 4294967296 + y0)
structure Dg (U u y1 y0 : Int) : Prop where
  a : 2147483648 ≤ y1
  b : y1 < 4294967296
  c : 0 ≤ y0
  d : y0 < 4294967296
  e : 0 ≤ U
  f : U < y1 * 4294967296 + y0
  g : 0 ≤ u
  h : u < 4294967296
theorem Dg.lt {U u y1 y0 : Int} (D : Dg U u y1 y0) (q : Int) : dig U u y1 y0 < q ↔ U * 4294967296 + u < (q * y1) * 4294967296 + q * y0 := by
  obtain ⟨a, b, c, d, e, f, g, h⟩ := D
  rw [← mulN]; exact Int.ediv_lt_iff_lt_mul (by omega)
theorem Dg.nn {U u y1 y0 : Int} (D : Dg U u y1 y0) : 0 ≤ dig U u y1 y0 := by
  obtain ⟨a, b, c, d, e, f, g, h⟩ := D
  exact Int.ediv_nonneg (by omega) (by omega)
theorem Dg.cond {U u y1 y0 : Int} (D : Dg U u y1 y0) {q r : Int} (hr : r = U - q * y1) : dig U u y1 y0 < q ↔ q * y0 > 4294967296 * r + u := by
  rw [D.lt]; omega
theorem Dg.top {U u y1 y0 : Int} (D : Dg U u y1 y0) : dig U u y1 y0 < 4294967296 := by
  rw [D.lt]; obtain ⟨a, b, c, d, e, f, g, h⟩ := D; omega
theorem Dg.brk {U u y1 y0 : Int} (D : Dg U u y1 y0) {q r : Int} (hr : r = U - q * y1) (h1 : 4294967296 ≤ r) (h2 : q ≤ 4294967296) : ¬ dig U u y1 y0 < q := by
  rw [D.lt]; obtain ⟨a, b, c, d, e, f, g, h⟩ := D
  have := Int.mul_le_mul_of_nonneg_right h2 c
  omega
theorem Dg.start {U u y1 y0 : Int} (D : Dg U u y1 y0) : dig U u y1 y0 ≤ U / y1 ∧ U / y1 ≤ 4294967297 := by
  have hn := D.nn
  have hl := (Int.not_lt.mpr (Int.le_refl (dig U u y1 y0)))
  rw [D.lt] at hl
  obtain ⟨a, b, c, d, e, f, g, h⟩ := D
  have hm := Int.mul_nonneg hn c
  constructor
  · rw [Int.le_ediv_iff_mul_le (by omega)]; omega
  · have : U / y1 < 4294967298 := by rw [Int.ediv_lt_iff_lt_mul (by omega)]; omega
    omega
theorem Dg.rem {U u y1 y0 : Int} (D : Dg U u y1 y0) : 0 ≤ U * 4294967296 + u - dig U u y1 y0 * (y1 * 4294967296 + y0) ∧ U * 4294967296 + u - dig U u y1 y0 * (y1 * 4294967296 + y0) < y1 * 4294967296 + y0 := by
  obtain ⟨a, b, c, d, e, f, g, h⟩ := D
  unfold dig
  have h1 := Int.emod_nonneg (U * 4294967296 + u) (b := y1 * 4294967296 + y0) (by omega)
  have h2 := Int.emod_lt_of_pos (U * 4294967296 + u) (b := y1 * 4294967296 + y0) (by omega)
  have h3 := Int.mul_ediv_add_emod (U * 4294967296 + u) (y1 * 4294967296 + y0)
  rw [Int.mul_comm] at h3
  omega
theorem two_digits {U yN u1 u0 q1 R q0 R2 : Int} (h1 : R = U * 4294967296 + u1 - q1 * yN) (h2 : R2 = R * 4294967296 + u0 - q0 * yN) :
    R2 = U * 18446744073709551616 + (u1 * 4294967296 + u0) - (q1 * 4294967296 + q0) * yN := by
  subst h1; subst h2
  rw [Int.add_mul, show q1 * 4294967296 * yN = (q1 * yN) * 4294967296 by rw [Int.mul_assoc, Int.mul_comm 4294967296, ← Int.mul_assoc]]
  omega
theorem normal {hi lo y P Q q R2 U L : Int} (hP : 0 < P) (_ : 0 < Q) (hPQ : P * Q = 18446744073709551616) (hU : U = hi * P + lo / Q) (hL : L = (lo * P) % 18446744073709551616)
    (hR : R2 = U * 18446744073709551616 + L - q * (y * P)) (h0 : 0 ≤ R2) (h1 : R2 < y * P) :
    q = (hi * 18446744073709551616 + lo) / y ∧ R2 / P = (hi * 18446744073709551616 + lo) % y := by
  have e1 : (lo * P) / 18446744073709551616 = lo / Q := by
    rw [← hPQ, Int.mul_comm lo]; exact Int.mul_ediv_mul_of_pos _ _ hP
  have e2 := Int.mul_ediv_add_emod (lo * P) 18446744073709551616
  have e3 : U * 18446744073709551616 + L = (hi * 18446744073709551616 + lo) * P := by
    rw [hU, hL, ← e1, Int.add_mul, Int.add_mul, show hi * 18446744073709551616 * P = hi * P * 18446744073709551616 by rw [Int.mul_assoc, Int.mul_comm 18446744073709551616, ← Int.mul_assoc]]
    omega
  have e4 : R2 = (hi * 18446744073709551616 + lo - q * y) * P := by
    rw [hR, e3, Int.sub_mul, Int.mul_assoc]
  have n0 : 0 ≤ hi * 18446744073709551616 + lo - q * y := by
    rcases Int.lt_or_le (hi * 18446744073709551616 + lo - q * y) 0 with h | h
    · have := Int.mul_neg_of_neg_of_pos h hP; omega
    · exact h
  have n1 : hi * 18446744073709551616 + lo - q * y < y := by
    rw [e4] at h1
    exact Int.lt_of_mul_lt_mul_right h1 (Int.le_of_lt hP)
  have e5 : R2 / P = hi * 18446744073709551616 + lo - q * y := by rw [e4]; exact Int.mul_ediv_cancel _ (by omega)
  have hy : 0 < y := by omega
  have e6 : hi * 18446744073709551616 + lo = (hi * 18446744073709551616 + lo - q * y) + y * q := by rw [Int.mul_comm y]; omega
  refine ⟨?_, ?_⟩
  · rw [e6, Int.add_mul_ediv_left _ _ (by omega), Int.ediv_eq_zero_of_lt n0 n1]; omega
  · rw [e5]
    conv => rhs; rw [e6, Int.add_mul_emod_self_left]
    exact (Int.emod_eq_of_lt n0 n1).symm
end PM
namespace PM
def about (p lv x : Int) : Option Ball := if inLv lv then some (mk p lv (x % pw p (lv + 6))) else none
theorem near_le {p lv x n d : Int} {l : Int} (h : l ≤ turn p lv x n d) : dv p x n d = 0 ∨ l + 6 + vl p d ≤ (vl p (dv p x n d) : Int) := by
  unfold turn at h
  by_cases z : dv p x n d = 0
  · exact Or.inl z
  · rw [if_neg z] at h; right; omega
theorem about_eq {p x n d l : Int} (hp : Pr p) (hd : d ≠ 0) (h : dv p x n d = 0 ∨ l + 6 + vl p d ≤ (vl p (dv p x n d) : Int)) : ballAt p n d l = about p l x := by
  refine dV.unique hp hd (eK hp hd) ?_
  unfold about
  by_cases hl : inLv l
  · rw [if_pos hl]
    have hl' := hl
    unfold inLv at hl'
    have hq := bW hp (l + 6)
    have r0 := Int.emod_nonneg x (b := pw p (l + 6)) (by omega)
    have r1 := Int.emod_lt_of_pos x hq
    obtain ⟨o1, o2⟩ := ok_mk hp hl'.1 hl'.2 r0 r1
    have hdiv : pw p (l + 6 + vl p d) ∣ dv p x n d := by
      rcases h with h | h
      · rw [h]; exact Int.dvd_zero _
      · by_cases z : dv p x n d = 0
        · rw [z]; exact Int.dvd_zero _
        · exact (dP hp z (by omega)).mp h
    refine ⟨hl, ?_, o1, rfl, ?_⟩
    · unfold Fits
      by_cases hn : n = 0
      · exact Or.inl hn
      · right
        rw [ba hn, ba hd]
        have h6 : pw p 6 ≠ 0 := by have := bW hp 6; omega
        have e1 : (vl p (n * pw p 6) : Int) = vl p n + 6 := by
          rw [dT hp hn h6]; have := vl_pw hp 6 (by omega); omega
        have hnp : n * pw p 6 ≠ 0 := Int.mul_ne_zero hn h6
        have hd2 : pw p (vl p d) ∣ n * pw p 6 := by
          have a1 : pw p (vl p d) ∣ dv p x n d := Int.dvd_trans (ei (by omega)) hdiv
          have a2 : pw p (vl p d) ∣ x * d := Int.dvd_mul_of_dvd_right (dX hp hd)
          have := Int.dvd_add a1 a2
          rwa [show dv p x n d + x * d = n * pw p 6 by unfold dv; omega] at this
        have := (dP hp hnp (show (0 : Int) ≤ (vl p d : Int) by omega)).mpr hd2
        omega
    · rw [o2]
      refine ⟨r0, r1, ?_⟩
      have a1 : pw p (l + 6) ∣ x - x % pw p (l + 6) := Int.dvd_self_sub_emod
      have a2 : pw p (l + 6 + vl p d) ∣ (x - x % pw p (l + 6)) * d := by
        rw [pw_add (by omega) (by omega)]; exact Int.mul_dvd_mul a1 (dX hp hd)
      have := Int.dvd_add hdiv a2
      rwa [show dv p x n d + (x - x % pw p (l + 6)) * d = n * pw p 6 - x % pw p (l + 6) * d by unfold dv; rw [Int.sub_mul]; omega] at this
  · rw [if_neg hl]; exact Or.inl hl
end PM
namespace PM
theorem mark_pw {p : Int} {b : Ball} (h : Ok p b) : mark p b * pw p b.dn = b.top * pw p 6 := by
  have hd : 0 ≤ b.dn ∧ b.dn ≤ 6 := by unfold Ok at h; omega
  unfold mark
  rw [Int.mul_assoc, ← pw_add (by omega) (by omega), show 6 - b.dn + b.dn = 6 by omega]
theorem parent_is {p : Int} (hp : Pr p) {b : Ball} (h : Ok p b) (l : Int) : ballAt p b.top (pw p b.dn) l = about p l (mark p b) := by
  have hq := bW hp b.dn
  refine about_eq hp (by omega) (Or.inl ?_)
  unfold dv; have := mark_pw h; omega
theorem child_hi {p : Int} (hp : Pr p) {b : Ball} (h : Ok p b) (a l : Int) (hl : 0 ≤ b.lv) : ballAt p (b.top + a * pw p b.dn * pw p b.lv) (pw p b.dn) l = about p l (mark p b + a * pw p (b.lv + 6)) := by
  have hq := bW hp b.dn
  refine about_eq hp (by omega) (Or.inl ?_)
  unfold dv
  have := mark_pw h
  rw [Int.add_mul, Int.add_mul, pw_add hl (by omega)]
  have e : a * pw p b.dn * pw p b.lv * pw p 6 = a * (pw p b.lv * pw p 6) * pw p b.dn := by
    simp only [Int.mul_assoc]; congr 1
    rw [Int.mul_comm (pw p b.dn), Int.mul_assoc]
  omega
theorem child_lo {p : Int} (hp : Pr p) {b : Ball} (h : Ok p b) (a l d e f : Int) (hl : -6 ≤ b.lv) (hl2 : b.lv < 0) (hd : d = pw p b.dn * e) (he : d = pw p (-b.lv) * f) (hd0 : d ≠ 0) : ballAt p (b.top * e + a * f) d l = about p l (mark p b + a * pw p (b.lv + 6)) := by
  refine about_eq hp hd0 (Or.inl ?_)
  unfold dv
  have hm := mark_pw h
  have e1 : pw p 6 = pw p (b.lv + 6) * pw p (-b.lv) := by rw [← pw_add (by omega) (by omega)]; congr 1; omega
  rw [Int.add_mul, Int.add_mul]
  have a1 : b.top * e * pw p 6 = mark p b * d := by
    rw [hd, ← Int.mul_assoc, hm, Int.mul_assoc, Int.mul_assoc, Int.mul_comm e]
  have a2 : a * f * pw p 6 = a * pw p (b.lv + 6) * d := by
    rw [he, e1, Int.mul_assoc, Int.mul_assoc]; congr 1
    rw [Int.mul_comm f, Int.mul_assoc]
  omega
end PM
namespace PM
def isM (a b c d : Int) : Prop := ((-1000 ≤ a ∧ a ≤ 1000) ∧ (-1000 ≤ b ∧ b ≤ 1000) ∧ (-1000 ≤ c ∧ c ≤ 1000) ∧ (-1000 ≤ d ∧ d ≤ 1000)) ∧ a * d - b * c ≠ 0
instance (a b c d : Int) : Decidable (isM a b c d) := by unfold isM; infer_instance
def eT (x : Int) : Prop := -1000 ≤ x ∧ x ≤ 1000
instance (x : Int) : Decidable (eT x) := by unfold eT; infer_instance
def g4 (a b c d : Int) : Int := (Int.gcd (Int.gcd a b) (Int.gcd c d) : Int)
def sg (a b : Int) : Int := if a < 0 ∨ (a = 0 ∧ b < 0) then -1 else 1
def by4 (a b c d : Int) : Int := g4 a b c d * sg a b
def red (a b c d : Int) : Int × Int × Int × Int := (a.tdiv (by4 a b c d), b.tdiv (by4 a b c d), c.tdiv (by4 a b c d), d.tdiv (by4 a b c d))
theorem sg_cases (a b : Int) : sg a b = 1 ∨ sg a b = -1 := by unfold sg; split <;> simp
theorem g4_pos {a b c d : Int} (h : a * d - b * c ≠ 0) : 0 < g4 a b c d := by
  unfold g4
  have : Int.gcd (Int.gcd a b : Int) (Int.gcd c d : Int) ≠ 0 := by
    intro h0
    rw [Int.gcd_eq_zero_iff] at h0
    have h1 : Int.gcd a b = 0 := by omega
    rw [Int.gcd_eq_zero_iff] at h1
    apply h; rw [h1.1, h1.2]; simp
  omega
theorem g4_dvd (a b c d : Int) : g4 a b c d ∣ a ∧ g4 a b c d ∣ b ∧ g4 a b c d ∣ c ∧ g4 a b c d ∣ d := by
  unfold g4
  have h1 : (Int.gcd (Int.gcd a b : Int) (Int.gcd c d : Int) : Int) ∣ (Int.gcd a b : Int) := Int.gcd_dvd_left ..
  have h2 : (Int.gcd (Int.gcd a b : Int) (Int.gcd c d : Int) : Int) ∣ (Int.gcd c d : Int) := Int.gcd_dvd_right ..
  exact ⟨Int.dvd_trans h1 (Int.gcd_dvd_left ..), Int.dvd_trans h1 (Int.gcd_dvd_right ..), Int.dvd_trans h2 (Int.gcd_dvd_left ..), Int.dvd_trans h2 (Int.gcd_dvd_right ..)⟩
theorem by4_ne {a b c d : Int} (h : a * d - b * c ≠ 0) : by4 a b c d ≠ 0 := by
  have := g4_pos h
  unfold by4
  rcases sg_cases a b with e | e <;> rw [e] <;> omega
theorem by4_dvd (a b c d : Int) : by4 a b c d ∣ a ∧ by4 a b c d ∣ b ∧ by4 a b c d ∣ c ∧ by4 a b c d ∣ d := by
  have := g4_dvd a b c d
  unfold by4
  rcases sg_cases a b with e | e <;> rw [e]
  · simpa using this
  · simpa [Int.mul_neg, Int.neg_dvd] using this
theorem tdiv_sg (x g s : Int) (hs : s = 1 ∨ s = -1) : x.tdiv (g * s) = x.tdiv g * s := by
  rcases hs with rfl | rfl
  · simp
  · simp [Int.mul_neg, Int.tdiv_neg]
theorem red_det {a b c d : Int} (h : a * d - b * c ≠ 0) : (red a b c d).1 * (red a b c d).2.2.2 - (red a b c d).2.1 * (red a b c d).2.2.1 ≠ 0 := by
  obtain ⟨h1, h2, h3, h4⟩ := by4_dvd a b c d
  have e1 := Int.tdiv_mul_cancel h1
  have e2 := Int.tdiv_mul_cancel h2
  have e3 := Int.tdiv_mul_cancel h3
  have e4 := Int.tdiv_mul_cancel h4
  unfold red
  simp only
  generalize by4 a b c d = g at *
  generalize a.tdiv g = x at *
  generalize b.tdiv g = y at *
  generalize c.tdiv g = z at *
  generalize d.tdiv g = w at *
  intro h0
  apply h
  rw [← e1, ← e2, ← e3, ← e4]
  have : x * g * (w * g) - y * g * (z * g) = (x * w - y * z) * (g * g) := by grind
  rw [this, h0]; simp
theorem g4_steps (a b c d : Int) : (Int.gcd (Int.gcd (Int.gcd (Int.gcd 0 (a.natAbs : Int) : Int) (b.natAbs : Int) : Int) (c.natAbs : Int) : Int) (d.natAbs : Int) : Int) = g4 a b c d := by
  unfold g4 Int.gcd
  simp [Nat.gcd_assoc]
theorem d5 (x g : Int) : (x.tdiv g).natAbs ≤ x.natAbs := by
  rw [Int.natAbs_tdiv]; exact Nat.div_le_self _ _
theorem isM_bd {a b c d : Int} (h : isM a b c d) : a.natAbs ≤ 1000 ∧ b.natAbs ≤ 1000 ∧ c.natAbs ≤ 1000 ∧ d.natAbs ≤ 1000 := by
  unfold isM at h; omega
theorem red_small {a b c d : Int} (h : isM a b c d) : eT (red a b c d).1 ∧ eT (red a b c d).2.1 ∧ eT (red a b c d).2.2.1 ∧ eT (red a b c d).2.2.2 := by
  have hb := isM_bd h
  unfold red eT
  simp only
  have h1 := d5 a (by4 a b c d)
  have h2 := d5 b (by4 a b c d)
  have h3 := d5 c (by4 a b c d)
  have h4 := d5 d (by4 a b c d)
  omega
theorem red_isM {a b c d : Int} (h : a * d - b * c ≠ 0) : isM (red a b c d).1 (red a b c d).2.1 (red a b c d).2.2.1 (red a b c d).2.2.2 ↔ (eT (red a b c d).1 ∧ eT (red a b c d).2.1 ∧ eT (red a b c d).2.2.1 ∧ eT (red a b c d).2.2.2) := by
  have := red_det h
  unfold isM eT
  exact ⟨fun h => h.1, fun h => ⟨h, this⟩⟩
theorem det_mul (a b c d e f g h : Int) : (a * e + b * g) * (c * f + d * h) - (a * f + b * h) * (c * e + d * g) = (a * d - b * c) * (e * h - f * g) := by grind
theorem det_bd {a b c d : Int} (h : isM a b c d) : (a * d).natAbs ≤ 1000000 ∧ (b * c).natAbs ≤ 1000000 ∧ a * d - b * c ≠ 0 := by
  have hb := isM_bd h
  refine ⟨?_, ?_, h.2⟩
  · rw [Int.natAbs_mul]
    have := Nat.mul_le_mul hb.1 hb.2.2.2
    omega
  · rw [Int.natAbs_mul]
    have := Nat.mul_le_mul hb.2.1 hb.2.2.1
    omega
end PM
namespace PM
def mvF (p a b c d P T S : Int) : Int × Int :=
  if c * T + d * S = 0 ∨ (c * P ≠ 0 ∧ vl p (c * P) < vl p (c * T + d * S)) then (a * P, c * P) else (a * T + b * S, c * T + d * S)
theorem mvF_ne {p a b c d P T S : Int} (hd : a * d - b * c ≠ 0) (hP : P ≠ 0) (hS : S ≠ 0) : (mvF p a b c d P T S).2 ≠ 0 := by
  unfold mvF
  split
  · rename_i h
    simp only
    rcases h with h | h
    · intro h0
      have hc : c = 0 := (Int.mul_eq_zero.mp h0).resolve_right hP
      subst hc
      simp only [Int.zero_mul, Int.zero_add] at h
      have hd0 : d = 0 := (Int.mul_eq_zero.mp h).resolve_right hS
      subst hd0
      simp at hd
    · exact h.1
  · rename_i h
    exact fun h0 => h (Or.inl h0)
theorem mvF_scale {p : Int} (hp : Pr p) {a b c d P T S K : Int} (hK : K ≠ 0) : mvF p a b c d (K * P) (K * T) (K * S) = (K * (mvF p a b c d P T S).1, K * (mvF p a b c d P T S).2) := by
  have e1 : ∀ x y : Int, x * (K * T) + y * (K * S) = K * (x * T + y * S) := by intro x y; grind
  have e2 : ∀ x : Int, x * (K * P) = K * (x * P) := by intro x; grind
  unfold mvF
  simp only [e1, e2]
  have z : ∀ x : Int, K * x = 0 ↔ x = 0 := fun x => by rw [Int.mul_eq_zero]; exact ⟨fun h => h.resolve_left hK, Or.inr⟩
  have hc : (K * (c * T + d * S) = 0 ∨ (K * (c * P) ≠ 0 ∧ vl p (K * (c * P)) < vl p (K * (c * T + d * S)))) ↔ (c * T + d * S = 0 ∨ (c * P ≠ 0 ∧ vl p (c * P) < vl p (c * T + d * S))) := by
    by_cases h0 : c * T + d * S = 0
    · simp [h0]
    · by_cases h1 : c * P = 0
      · simp [h1, h0, hK]
      · rw [dT hp hK h1, dT hp hK h0]
        have a1 : ¬ K * (c * T + d * S) = 0 := fun x => h0 ((z _).mp x)
        have a2 : ¬ K * (c * P) = 0 := fun x => h1 ((z _).mp x)
        simp only [h0, h1, a1, a2, false_or, ne_eq, not_false_eq_true, true_and]
        omega
  by_cases h : (c * T + d * S = 0 ∨ (c * P ≠ 0 ∧ vl p (c * P) < vl p (c * T + d * S)))
  · rw [if_pos h, if_pos (hc.mpr h)]
  · rw [if_neg h, if_neg (fun x => h (hc.mp x))]
theorem isBallOf_scale {p num den lv K : Int} (hp : Pr p) (hK : K ≠ 0) (hd : den ≠ 0) {o : Option Ball} (h : dV p num den lv o) : dV p (K * num) (K * den) lv o := by
  have hf : Fits p (K * num) (K * den) ↔ Fits p num den := by
    unfold Fits
    by_cases h0 : num = 0
    · simp [h0]
    · have a1 : K * num ≠ 0 := Int.mul_ne_zero hK h0
      have a2 : K * den ≠ 0 := Int.mul_ne_zero hK hd
      rw [ba a1, ba a2, ba h0, ba hd, dT hp hK h0, dT hp hK hd]
      simp only [a1, h0, false_or]
      omega
  cases o with
  | none => exact h.imp id (fun g x => g (hf.mp x))
  | some b =>
    obtain ⟨h1, h2, h3, h4, h5⟩ := h
    refine ⟨h1, hf.mpr h2, h3, h4, h5.1, h5.2.1, ?_⟩
    have a2 : K * den ≠ 0 := Int.mul_ne_zero hK hd
    rw [dT hp hK hd]
    have e : K * num * pw p 6 - mark p b * (K * den) = K * (num * pw p 6 - mark p b * den) := by grind
    rw [e]
    have hk : pw p (vl p K) ∣ K := dX hp hK
    have hl := h1.1
    rw [show lv + 6 + ((vl p K + vl p den : Nat) : Int) = (vl p K : Int) + (lv + 6 + vl p den) by omega, pw_add (by omega) (by omega)]
    exact Int.mul_dvd_mul hk h5.2.2
theorem ballAt_scale {p num den lv K : Int} (hp : Pr p) (hK : K ≠ 0) (hd : den ≠ 0) : ballAt p (K * num) (K * den) lv = ballAt p num den lv :=
  (eK hp (Int.mul_ne_zero hK hd)).unique hp (Int.mul_ne_zero hK hd) (isBallOf_scale hp hK hd (eK hp hd))
def moveB (p a b c d : Int) (x : Ball) : Option Ball :=
  let q := mvF p a b c d (pw p (x.lv + 6)) (mark p x) (pw p 6)
  ballAt p q.1 q.2 ((vl p (a * d - b * c) : Int) + x.lv + 12 - 2 * vl p q.2)
theorem moveB_ref {p a b c d t : Int} {x : Ball} (hp : Pr p) (hd : a * d - b * c ≠ 0) (hx : Ok p x) (ht : t = max x.dn (-x.lv)) :
    moveB p a b c d x = ballAt p (mvF p a b c d (pw p (x.lv + t)) (x.top * pw p (t - x.dn)) (pw p t)).1 (mvF p a b c d (pw p (x.lv + t)) (x.top * pw p (t - x.dn)) (pw p t)).2 ((vl p (a * d - b * c) : Int) + x.lv + 2 * t - 2 * vl p (mvF p a b c d (pw p (x.lv + t)) (x.top * pw p (t - x.dn)) (pw p t)).2) := by
  obtain ⟨h1, h2, h3, h4, h5⟩ := hx
  have hK := bW hp (6 - t)
  have hK' : pw p (6 - t) ≠ 0 := by omega
  have e1 : pw p (x.lv + 6) = pw p (6 - t) * pw p (x.lv + t) := by rw [← pw_add (by omega) (by omega)]; congr 1; omega
  have e2 : mark p x = pw p (6 - t) * (x.top * pw p (t - x.dn)) := by
    unfold mark
    rw [show 6 - x.dn = (6 - t) + (t - x.dn) by omega, pw_add (by omega) (by omega)]
    grind
  have e3 : pw p 6 = pw p (6 - t) * pw p t := by rw [← pw_add (by omega) (by omega)]; congr 1; omega
  unfold moveB
  simp only
  have eM : mvF p a b c d (pw p (x.lv + 6)) (mark p x) (pw p 6) = (pw p (6 - t) * (mvF p a b c d (pw p (x.lv + t)) (x.top * pw p (t - x.dn)) (pw p t)).1, pw p (6 - t) * (mvF p a b c d (pw p (x.lv + t)) (x.top * pw p (t - x.dn)) (pw p t)).2) := by
    rw [← mvF_scale hp hK', ← e1, ← e2, ← e3]
  rw [eM]
  simp only
  have hP := bW hp (x.lv + t)
  have hS := bW hp t
  have hne : (mvF p a b c d (pw p (x.lv + t)) (x.top * pw p (t - x.dn)) (pw p t)).2 ≠ 0 := mvF_ne hd (by omega) (by omega)
  rw [dT hp hK' hne, ballAt_scale hp hK' hne]
  have := vl_pw hp (6 - t) (by omega)
  congr 1
  omega
end PM
namespace PM
def jl (p : Int) (b c : Ball) : Int := min (min b.lv c.lv) (vz p (mark p b - mark p c) - 6)
def dist (p : Int) (b c : Ball) : Int := b.lv + c.lv - 2 * jl p b c
theorem mark_diff {p : Int} {b c : Ball} (hb : Ok p b) (hc : Ok p c) : mark p b - mark p c = pw p (6 - max b.dn c.dn) * (b.top * pw p (max b.dn c.dn - b.dn) - c.top * pw p (max b.dn c.dn - c.dn)) := by
  obtain ⟨_, _, b3, b4, _⟩ := hb
  obtain ⟨_, _, c3, c4, _⟩ := hc
  unfold mark
  have e : ∀ (t d : Int), 0 ≤ d → d ≤ max b.dn c.dn → t * pw p (6 - d) = pw p (6 - max b.dn c.dn) * (t * pw p (max b.dn c.dn - d)) := by
    intro t d h0 h1
    rw [show 6 - d = (6 - max b.dn c.dn) + (max b.dn c.dn - d) by omega, pw_add (by omega) (by omega)]
    grind
  rw [e b.top b.dn b3 (by omega), e c.top c.dn c3 (by omega), Int.mul_sub]
theorem jl_ref {p : Int} (hp : Pr p) {b c : Ball} (hb : Ok p b) (hc : Ok p c) :
    jl p b c = if b.top * pw p (max b.dn c.dn - b.dn) - c.top * pw p (max b.dn c.dn - c.dn) = 0 then min b.lv c.lv else min (min b.lv c.lv) ((vl p (b.top * pw p (max b.dn c.dn - b.dn) - c.top * pw p (max b.dn c.dn - c.dn)) : Int) - max b.dn c.dn) := by
  have hm := mark_diff hb hc
  obtain ⟨b1, b2, b3, b4, _⟩ := hb
  obtain ⟨c1, c2, c3, c4, _⟩ := hc
  unfold jl
  rw [hm]
  generalize b.top * pw p (max b.dn c.dn - b.dn) - c.top * pw p (max b.dn c.dn - c.dn) = D
  have hK := bW hp (6 - max b.dn c.dn)
  by_cases h : D = 0
  · rw [if_pos h, h, Int.mul_zero]; simp only [vz, if_true]; omega
  · rw [if_neg h, ba (Int.mul_ne_zero (by omega) h), dT hp (by omega) h]
    have := vl_pw hp (6 - max b.dn c.dn) (by omega)
    congr 1; omega
theorem jl_bd (p : Int) {b c : Ball} (hb : Ok p b) (hc : Ok p c) : -6 ≤ jl p b c ∧ jl p b c ≤ b.lv ∧ jl p b c ≤ c.lv := by
  have := vz_nonneg p (mark p b - mark p c)
  obtain ⟨b1, _⟩ := hb
  obtain ⟨c1, _⟩ := hc
  unfold jl; omega
theorem ballAt_ok {p n d lv : Int} (hp : Pr p) (hd : d ≠ 0) {b : Ball} (h : ballAt p n d lv = some b) : Ok p b ∧ b.lv = lv := by
  have := eK (num := n) (lv := lv) hp hd
  rw [h] at this
  exact ⟨this.2.2.1, this.2.2.2.1⟩
theorem moveB_ok {p a b c d : Int} {x y : Ball} (hp : Pr p) (hd : a * d - b * c ≠ 0) (h : moveB p a b c d x = some y) : Ok p y := by
  unfold moveB at h
  simp only at h
  have hP := bW hp (x.lv + 6)
  have hS := bW hp 6
  exact (ballAt_ok hp (mvF_ne hd (by omega) (by omega)) h).1
end PM
namespace PM
theorem le_jl {p l : Int} (hp : Pr p) {b c : Ball} (hb : Ok p b) (_hc : Ok p c) (hl : -6 ≤ l) : l ≤ jl p b c ↔ (l ≤ b.lv ∧ l ≤ c.lv ∧ pw p (l + 6) ∣ mark p b - mark p c) := by
  have b2 := hb.2.1
  unfold jl vz
  by_cases z : mark p b - mark p c = 0
  · rw [if_pos z]
    constructor
    · intro h; refine ⟨by omega, by omega, ?_⟩; rw [z]; exact Int.dvd_zero _
    · rintro ⟨h1, h2, _⟩; omega
  · rw [if_neg z, ← dP hp z (k := l + 6) (by omega)]; omega
theorem ball_ext {p : Int} (hp : Pr p) {b c : Ball} (hb : Ok p b) (hc : Ok p c) (h1 : b.lv = c.lv) (h2 : mark p b = mark p c) : b = c := by
  rw [← ff hp hb, ← ff hp hc, h1, h2]
theorem jl_comm (p : Int) (b c : Ball) : jl p b c = jl p c b := by
  have e : vz p (mark p b - mark p c) = vz p (mark p c - mark p b) := by
    unfold vz
    by_cases z : mark p b - mark p c = 0
    · rw [if_pos z, if_pos (by omega)]
    · rw [if_neg z, if_neg (by omega)]
      rw [show mark p c - mark p b = -(mark p b - mark p c) by omega]
      unfold vl
      have : ∀ (k : Nat) (n : Int), vF p k (-n) = vF p k n := by
        intro k
        induction k with
        | zero => intro n; rfl
        | succ k ih =>
          intro n
          unfold vF
          by_cases d : p ∣ n
          · rw [if_pos d, if_pos ((Int.dvd_neg).2 d)]
            obtain ⟨c, rfl⟩ := d
            by_cases h0 : p = 0
            · subst h0; simp
            · rw [← Int.mul_neg, Int.mul_ediv_cancel_left _ h0, Int.mul_ediv_cancel_left _ h0, ih]
          · rw [if_neg d, if_neg (fun h => d ((Int.dvd_neg).1 h))]
      rw [this, Int.natAbs_neg]
  unfold jl; rw [e]; omega
theorem jl_self {p : Int} {b : Ball} (hb : Ok p b) : jl p b b = b.lv := by
  have := hb.2.1
  unfold jl vz
  rw [if_pos (by omega)]; omega
theorem eJ (p : Int) (b c : Ball) : dist p b c = dist p c b := by
  unfold dist; rw [jl_comm]; omega
theorem ch {p : Int} (hp : Pr p) {b c : Ball} (hb : Ok p b) (hc : Ok p c) : dist p b c = 0 ↔ b = c := by
  constructor
  · intro h
    have hbd := jl_bd p hb hc
    unfold dist at h
    have h1 : b.lv = c.lv := by omega
    have := (le_jl hp hb hc (l := b.lv) (by have := hb.1; omega)).1 (by omega)
    have m1 := mark_bd hp hb
    have m2 := mark_bd hp hc
    refine ball_ext hp hb hc h1 ?_
    rw [← h1] at m2
    rw [← Int.emod_eq_of_lt m1.1 m1.2, ← Int.emod_eq_of_lt m2.1 m2.2]
    exact Int.emod_eq_emod_iff_emod_sub_eq_zero.2 (Int.emod_eq_zero_of_dvd this.2.2)
  · rintro rfl; unfold dist; rw [jl_self hb]; omega
theorem ev {p : Int} {b c : Ball} (hb : Ok p b) (hc : Ok p c) : 0 ≤ dist p b c := by
  have := jl_bd p hb hc; unfold dist; omega
theorem eR {p l x : Int} {b : Ball} (hp : Pr p) (h : about p l x = some b) : Ok p b ∧ b.lv = l ∧ inLv l ∧ mark p b = x % pw p (l + 6) := by
  unfold about at h
  by_cases hl : inLv l
  · rw [if_pos hl] at h
    obtain rfl := Option.some.inj h
    have hl' := hl
    unfold inLv at hl'
    have hq := bW hp (l + 6)
    obtain ⟨o1, o2⟩ := ok_mk hp hl'.1 hl'.2 (Int.emod_nonneg x (b := pw p (l + 6)) (by omega)) (Int.emod_lt_of_pos x hq)
    exact ⟨o1, rfl, hl, o2⟩
  · rw [if_neg hl] at h; cases h
theorem jl_up {p : Int} (hp : Pr p) {x y c : Ball} (hx : Ok p x) (hy : Ok p y) (hc : Ok p c) (h1 : y.lv ≤ x.lv) (h2 : pw p (y.lv + 6) ∣ mark p y - mark p x) : jl p y c = min (jl p x c) y.lv := by
  have b1 := jl_bd p hy hc
  have b2 := jl_bd p hx hc
  have y1 := hy.1
  have key : ∀ l, -6 ≤ l → (l ≤ jl p y c ↔ l ≤ min (jl p x c) y.lv) := by
    intro l hl
    have e := le_jl hp hy hc hl
    have f := le_jl hp hx hc hl
    constructor
    · intro h
      obtain ⟨a1, a2, a3⟩ := e.1 h
      have d : pw p (l + 6) ∣ mark p y - mark p x := Int.dvd_trans (ei (by omega)) h2
      have : pw p (l + 6) ∣ mark p x - mark p c := by
        have := Int.dvd_sub a3 d
        rwa [show mark p y - mark p c - (mark p y - mark p x) = mark p x - mark p c by omega] at this
      have := f.2 ⟨by omega, a2, this⟩
      omega
    · intro h
      obtain ⟨a1, a2, a3⟩ := f.1 (by omega)
      have d : pw p (l + 6) ∣ mark p y - mark p x := Int.dvd_trans (ei (by omega)) h2
      have : pw p (l + 6) ∣ mark p y - mark p c := by
        have := Int.dvd_add d a3
        rwa [show mark p y - mark p x + (mark p x - mark p c) = mark p y - mark p c by omega] at this
      exact e.2 ⟨by omega, a2, this⟩
  have k1 := (key (jl p y c) (by omega)).1 (by omega)
  have k2 := (key (min (jl p x c) y.lv) (by omega)).2 (by omega)
  omega
def nbr (p : Int) (b : Ball) (k : Int) : Option Ball := if k = 0 then about p (b.lv - 1) (mark p b) else about p (b.lv + 1) (mark p b + (k - 1) * pw p (b.lv + 6))
theorem nbr_up {p : Int} (hp : Pr p) {b y : Ball} (h : nbr p b 0 = some y) : Ok p y ∧ y.lv = b.lv - 1 ∧ pw p (y.lv + 6) ∣ mark p y - mark p b := by
  unfold nbr at h
  rw [if_pos rfl] at h
  obtain ⟨h1, h2, _, h4⟩ := eR hp h
  refine ⟨h1, h2, ?_⟩
  rw [h4, h2]
  have := Int.dvd_self_sub_emod (x := mark p b) (m := pw p (b.lv - 1 + 6))
  rw [show mark p b % pw p (b.lv - 1 + 6) - mark p b = -(mark p b - mark p b % pw p (b.lv - 1 + 6)) by omega]
  exact Int.dvd_neg.2 this
theorem nbr_down {p k : Int} (hp : Pr p) {b y : Ball} (_hb : Ok p b) (hk : k ≠ 0) (h : nbr p b k = some y) : Ok p y ∧ y.lv = b.lv + 1 ∧ pw p (b.lv + 6) ∣ mark p b - mark p y ∧ pw p (y.lv + 6) ∣ mark p y - (mark p b + (k - 1) * pw p (b.lv + 6)) := by
  unfold nbr at h
  rw [if_neg hk] at h
  obtain ⟨h1, h2, _, h4⟩ := eR hp h
  have t : pw p (y.lv + 6) ∣ mark p y - (mark p b + (k - 1) * pw p (b.lv + 6)) := by
    rw [h4, h2]
    have := Int.dvd_self_sub_emod (x := mark p b + (k - 1) * pw p (b.lv + 6)) (m := pw p (b.lv + 1 + 6))
    generalize mark p b + (k - 1) * pw p (b.lv + 6) = X at this ⊢
    rw [show X % pw p (b.lv + 1 + 6) - X = -(X - X % pw p (b.lv + 1 + 6)) by omega]
    exact Int.dvd_neg.2 this
  refine ⟨h1, h2, ?_, t⟩
  have t2 : pw p (b.lv + 6) ∣ mark p y - (mark p b + (k - 1) * pw p (b.lv + 6)) := Int.dvd_trans (ei (by omega)) t
  have t3 := Int.dvd_add t2 (Int.dvd_mul_of_dvd_right (b := k - 1) (Int.dvd_refl (pw p (b.lv + 6))))
  rw [show mark p y - (mark p b + (k - 1) * pw p (b.lv + 6)) + (k - 1) * pw p (b.lv + 6) = -(mark p b - mark p y) by omega] at t3
  exact Int.dvd_neg.1 t3
theorem fo {p k : Int} (hp : Pr p) {b c y : Ball} (hb : Ok p b) (hc : Ok p c) (h : nbr p b k = some y) : dist p y c = dist p b c + 1 ∨ dist p y c = dist p b c - 1 := by
  have b1 := jl_bd p hb hc
  by_cases hk : k = 0
  · subst hk
    obtain ⟨o, l, d⟩ := nbr_up hp h
    have := jl_up hp hb o hc (by omega) d
    unfold dist; omega
  · obtain ⟨o, l, d, _⟩ := nbr_down hp hb hk h
    have := jl_up hp o hb hc (by omega) d
    have b2 := jl_bd p o hc
    unfold dist; omega
def tow (p : Int) (b c : Ball) : Int := if jl p b c < b.lv then 0 else (mark p c - mark p b) / pw p (b.lv + 6) % p + 1
theorem tow_bd {p : Int} (hp : Pr p) (b c : Ball) : 0 ≤ tow p b c ∧ tow p b c ≤ p := by
  have := hp.pos
  unfold tow
  split
  · omega
  · have := Int.emod_nonneg ((mark p c - mark p b) / pw p (b.lv + 6)) (b := p) (by omega)
    have := Int.emod_lt_of_pos ((mark p c - mark p b) / pw p (b.lv + 6)) (b := p) (by omega)
    omega
theorem eu {p k : Int} (hp : Pr p) {b c y : Ball} (hb : Ok p b) (hc : Ok p c) (hn : b ≠ c) (h0 : 0 ≤ k) (hk : k ≤ p) (h : nbr p b k = some y) : dist p y c < dist p b c ↔ k = tow p b c := by
  have hp2 := hp.pos
  have b1 := jl_bd p hb hc
  unfold tow
  have lb := hb.1
  by_cases z : k = 0
  · subst z
    obtain ⟨o, l, d⟩ := nbr_up hp h
    have e := jl_up hp hb o hc (by omega) d
    by_cases g : jl p b c < b.lv
    · rw [if_pos g]; unfold dist; omega
    · rw [if_neg g]
      have := Int.emod_nonneg ((mark p c - mark p b) / pw p (b.lv + 6)) (b := p) (by omega)
      unfold dist; omega
  · obtain ⟨o, l, d, t⟩ := nbr_down hp hb z h
    have e := jl_up hp o hb hc (by omega) d
    have b2 := jl_bd p o hc
    by_cases g : jl p b c < b.lv
    · rw [if_pos g]; unfold dist; omega
    · rw [if_neg g]
      have hj := (le_jl hp hb hc (l := b.lv) lb).1 (by omega)
      obtain ⟨q, hq⟩ := hj.2.2
      have hP := bW hp (b.lv + 6)
      have hcl : b.lv < c.lv := by
        rcases Int.lt_or_le b.lv c.lv with w | w
        · exact w
        · refine absurd ((ch hp hb hc).1 ?_) hn
          unfold dist; omega
      rw [show mark p c - mark p b = pw p (b.lv + 6) * (-q) by rw [Int.mul_neg]; omega, Int.mul_ediv_cancel_left _ (by omega)]
      have hs := le_jl hp o hc (l := y.lv) (by omega)
      have e7 : pw p (y.lv + 6) = pw p (b.lv + 6) * p := by
        rw [l, show b.lv + 1 + 6 = (b.lv + 6) + 1 by omega, pw_add (by omega) (by omega)]; congr 1; show p ^ 1 = p; rw [Int.pow_succ, Int.pow_zero, Int.one_mul]
      have hw : pw p (y.lv + 6) ∣ mark p y - mark p c ↔ p ∣ (k - 1) + q := by
        constructor
        · intro w
          have := Int.dvd_sub w t
          rw [show mark p y - mark p c - (mark p y - (mark p b + (k - 1) * pw p (b.lv + 6))) = pw p (b.lv + 6) * ((k - 1) + q) by rw [Int.mul_add, ← hq, Int.mul_comm (pw p (b.lv + 6)) (k - 1)]; omega, e7] at this
          exact Int.dvd_of_mul_dvd_mul_left (by omega) this
        · intro w
          have : pw p (y.lv + 6) ∣ pw p (b.lv + 6) * ((k - 1) + q) := by rw [e7]; exact Int.mul_dvd_mul_left _ w
          have := Int.dvd_add t this
          rwa [show mark p y - (mark p b + (k - 1) * pw p (b.lv + 6)) + pw p (b.lv + 6) * ((k - 1) + q) = mark p y - mark p c by rw [Int.mul_add, ← hq, Int.mul_comm (pw p (b.lv + 6)) (k - 1)]; omega] at this
      have hm : p ∣ (k - 1) + q ↔ k = -q % p + 1 := by
        constructor
        · rintro ⟨s, hs⟩
          have : -q = (k - 1) + p * (-s) := by rw [Int.mul_neg]; omega
          rw [this, Int.add_mul_emod_self_left, Int.emod_eq_of_lt (by omega) (by omega)]; omega
        · intro w
          have := Int.mul_ediv_add_emod (-q) p
          refine ⟨-(-q / p), ?_⟩
          rw [Int.mul_neg]; omega
      rw [← hm, ← hw]
      unfold dist
      constructor
      · intro w
        exact (hs.1 (by omega)).2.2
      · intro w
        have := hs.2 ⟨by omega, by omega, w⟩
        omega
end PM
namespace PM
theorem dist_one {p k : Int} (hp : Pr p) {b y : Ball} (hb : Ok p b) (h : nbr p b k = some y) (hy : Ok p y) : dist p b y = 1 := by
  have := fo hp hb hb h
  have z := (ch hp hb hb).2 rfl
  have := ev hy hb
  rw [eJ]; omega
theorem nbr_ok {p k : Int} {b c : Ball} (hp : Pr p) (h : nbr p b k = some c) : Ok p c := by
  unfold nbr at h
  by_cases z : k = 0
  · rw [if_pos z] at h; exact (eR hp h).1
  · rw [if_neg z] at h; exact (eR hp h).1
theorem nbr_tow {p : Int} (hp : Pr p) {b c : Ball} (hb : Ok p b) (hc : Ok p c) (hn : b ≠ c) : ∃ y, nbr p b (tow p b c) = some y ∧ Ok p y ∧ dist p y c = dist p b c - 1 ∧ dist p b y = 1 := by
  have bd := jl_bd p hb hc
  have hs : ∃ y, nbr p b (tow p b c) = some y := by
    unfold tow
    have hb2 := hb.2.1
    have hc2 := hc.2.1
    have hp2 := hp.pos
    by_cases g : jl p b c < b.lv
    · rw [if_pos g]; unfold nbr about; rw [if_pos rfl, if_pos (show inLv (b.lv - 1) by unfold inLv; omega)]; exact ⟨_, rfl⟩
    · rw [if_neg g]
      have hcl : b.lv < c.lv := by
        rcases Int.lt_or_le b.lv c.lv with w | w
        · exact w
        · refine absurd ((ch hp hb hc).1 ?_) hn
          unfold dist; omega
      have := Int.emod_nonneg ((mark p c - mark p b) / pw p (b.lv + 6)) (b := p) (by omega)
      unfold nbr about; rw [if_neg (by omega), if_pos (show inLv (b.lv + 1) by unfold inLv; omega)]; exact ⟨_, rfl⟩
  obtain ⟨y, hy⟩ := hs
  have oy := nbr_ok hp hy
  have tb := tow_bd hp b c
  have := (eu hp hb hc hn tb.1 tb.2 hy).2 rfl
  have d := fo hp hb hc hy
  exact ⟨y, hy, oy, by omega, dist_one hp hb hy oy⟩
theorem nbr_iff {p k : Int} (hp : Pr p) {b c : Ball} (hb : Ok p b) (hc : Ok p c) (h1 : dist p b c = 1) (h0 : 0 ≤ k) (hk : k ≤ p) : nbr p b k = some c ↔ k = tow p b c := by
  have hn : b ≠ c := by
    rintro rfl; have := (ch hp hb hb).2 rfl; omega
  constructor
  · intro h
    refine (eu hp hb hc hn h0 hk h).1 ?_
    have := (ch hp hc hc).2 rfl
    omega
  · rintro rfl
    obtain ⟨y, hy, oy, d, _⟩ := nbr_tow hp hb hc hn
    rw [hy, (ch hp oy hc).1 (by omega)]
def dl (p : Int) (c x : Ball) : Ball := (nbr p x (tow p x c)).getD x
theorem stepB_spec {p : Int} (hp : Pr p) {b c : Ball} (hb : Ok p b) (hc : Ok p c) (hn : dist p b c ≠ 0) : nbr p b (tow p b c) = some (dl p c b) ∧ Ok p (dl p c b) ∧ dist p (dl p c b) c = dist p b c - 1 ∧ dist p b (dl p c b) = 1 := by
  obtain ⟨y, hy, h2, h3, h4⟩ := nbr_tow hp hb hc (fun h => hn ((ch hp hb hc).2 h))
  have e : dl p c b = y := by unfold dl; rw [hy]; rfl
  rw [e]; exact ⟨hy, h2, h3, h4⟩
theorem stepB_eq {p : Int} (hp : Pr p) {x y c : Ball} (hx : Ok p x) (hy : Ok p y) (hc : Ok p c) (h1 : dist p x y = 1) (h2 : dist p y c = dist p x c - 1) : dl p c x = y := by
  have hn : x ≠ c := by
    rintro rfl; have := (ch hp hx hx).2 rfl; have := ev hy hx; omega
  have tb := tow_bd hp x y
  have h := (nbr_iff hp hx hy h1 tb.1 tb.2).2 rfl
  have := (eu hp hx hc hn tb.1 tb.2 h).1 (by omega)
  unfold dl; rw [← this, h]; rfl
def ab (p n : Int) (x : Ball) : Ball := mk p n (mark p x % pw p (n + 6))
theorem eA {p n : Int} (hp : Pr p) {x : Ball} (hx : Ok p x) (h0 : -6 ≤ n) (h1 : n ≤ x.lv) : Ok p (ab p n x) ∧ (ab p n x).lv = n ∧ ∀ c, Ok p c → jl p (ab p n x) c = min (jl p x c) n := by
  have hq := bW hp (n + 6)
  obtain ⟨o1, o2⟩ := ok_mk hp h0 (show n ≤ 6 by have := hx.2.1; omega) (Int.emod_nonneg (mark p x) (b := pw p (n + 6)) (by omega)) (Int.emod_lt_of_pos (mark p x) hq)
  refine ⟨o1, rfl, fun c hc => ?_⟩
  refine jl_up hp hx o1 hc h1 ?_
  show pw p (n + 6) ∣ mark p (mk p n (mark p x % pw p (n + 6))) - mark p x
  rw [o2]
  have := Int.dvd_self_sub_emod (x := mark p x) (m := pw p (n + 6))
  generalize mark p x = X at this ⊢
  rw [show X % pw p (n + 6) - X = -(X - X % pw p (n + 6)) by omega]
  exact Int.dvd_neg.2 this
theorem ab_self {p : Int} (hp : Pr p) {x : Ball} (hx : Ok p x) : ab p x.lv x = x := by
  have m := mark_bd hp hx
  unfold ab; rw [Int.emod_eq_of_lt m.1 m.2, ff hp hx]
theorem fH {p n : Int} (hp : Pr p) {x c : Ball} (hx : Ok p x) (hc : Ok p c) (h0 : -6 ≤ n) (h1 : n ≤ x.lv) : dist p (ab p n x) c = n + c.lv - 2 * min (jl p x c) n := by
  obtain ⟨_, e, h⟩ := eA hp hx h0 h1
  unfold dist; rw [h c hc, e]
theorem ab_near {p n : Int} (hp : Pr p) {x : Ball} (hx : Ok p x) (h0 : -6 ≤ n - 1) (h1 : n ≤ x.lv) : dist p (ab p n x) (ab p (n - 1) x) = 1 := by
  obtain ⟨o, e, h⟩ := eA hp hx (n := n - 1) h0 (by omega)
  rw [fH hp hx o (by omega) h1, e, jl_comm, h x hx, jl_self hx]; omega
theorem step_up {p n : Int} (hp : Pr p) {b c : Ball} (hb : Ok p b) (hc : Ok p c) (h0 : jl p b c < n) (h1 : n ≤ b.lv) : dl p c (ab p n b) = ab p (n - 1) b := by
  have bd := jl_bd p hb hc
  refine stepB_eq hp (eA hp hb (by omega) h1).1 (eA hp hb (by omega) (by omega)).1 hc (ab_near hp hb (by omega) h1) ?_
  rw [fH hp hb hc (by omega) (by omega), fH hp hb hc (by omega) (by omega)]; omega
theorem step_down {p n : Int} (hp : Pr p) {c : Ball} (hc : Ok p c) (h0 : -6 ≤ n) (h1 : n < c.lv) : dl p c (ab p n c) = ab p (n + 1) c := by
  have s := jl_self hc
  refine stepB_eq hp (eA hp hc (by omega) (by omega)).1 (eA hp hc (by omega) (by omega)).1 hc ?_ ?_
  · rw [eJ]
    have := ab_near hp hc (n := n + 1) (by omega) (by omega)
    rwa [show n + 1 - 1 = n by omega] at this
  · rw [fH hp hc hc (by omega) (by omega), fH hp hc hc (by omega) (by omega)]; omega
theorem ab_join {p : Int} (hp : Pr p) {b c : Ball} (hb : Ok p b) (hc : Ok p c) : ab p (jl p b c) b = ab p (jl p b c) c := by
  have bd := jl_bd p hb hc
  obtain ⟨o, e, h⟩ := eA hp hc (n := jl p b c) (by omega) (by omega)
  refine (ch hp (eA hp hb (by omega) (by omega)).1 o).1 ?_
  rw [fH hp hb o (by omega) (by omega), e, jl_comm p b (ab p (jl p b c) c), h b hb, jl_comm p c b]; omega
def path (p : Int) (c : Ball) : Nat → Ball → List Ball
  | 0, x => [x]
  | n + 1, x => x :: path p c n (dl p c x)
def itB (p : Int) (c : Ball) : Nat → Ball → Ball
  | 0, x => x
  | n + 1, x => itB p c n (dl p c x)
theorem path_len (p : Int) (c : Ball) : ∀ (n : Nat) (x : Ball), (path p c n x).length = n + 1
  | 0, _ => rfl
  | n + 1, x => by simp [path, path_len p c n]
theorem path_get (p : Int) (c : Ball) : ∀ (n i : Nat) (x : Ball), i ≤ n → (path p c n x)[i]? = some (itB p c i x)
  | 0, 0, _, _ => rfl
  | n + 1, 0, _, _ => rfl
  | n + 1, i + 1, x, h => by simp only [path, itB, List.getElem?_cons_succ]; exact path_get p c n i _ (by omega)
theorem itB_succ (p : Int) (c : Ball) : ∀ (n : Nat) (x : Ball), itB p c (n + 1) x = dl p c (itB p c n x)
  | 0, _ => rfl
  | n + 1, x => itB_succ p c n (dl p c x)
theorem itB_spec {p : Int} (hp : Pr p) {b c : Ball} (hb : Ok p b) (hc : Ok p c) : ∀ (i : Nat), (i : Int) ≤ dist p b c → Ok p (itB p c i b) ∧ dist p (itB p c i b) c = dist p b c - i := by
  intro i
  induction i with
  | zero => intro _; exact ⟨hb, by show dist p b c = _; omega⟩
  | succ i ih =>
    intro h
    obtain ⟨o, d⟩ := ih (by omega)
    obtain ⟨_, s1, s2, _⟩ := stepB_spec hp o hc (by omega)
    rw [itB_succ]
    exact ⟨s1, by omega⟩
theorem path_up {p : Int} (hp : Pr p) {b c : Ball} (hb : Ok p b) (hc : Ok p c) {n : Int} (d : Nat) (h0 : jl p b c < n) (h1 : n ≤ b.lv) : path p c (d + 1) (ab p n b) = ab p n b :: path p c d (ab p (n - 1) b) := by
  rw [path, step_up hp hb hc h0 h1]
theorem path_down {p : Int} (hp : Pr p) {c : Ball} (hc : Ok p c) {n : Int} (d : Nat) (h0 : -6 ≤ n) (h1 : n < c.lv) : path p c (d + 1) (ab p n c) = ab p n c :: path p c d (ab p (n + 1) c) := by
  rw [path, step_down hp hc h0 h1]
def fcB (p i : Int) : Int := if i = 0 then 1 else p + 2 + (i - 1) * p
def adj : Option Int → Int → Int
  | none, g => g
  | some t, g => if t < g then g - 1 else g
def placeF (p : Int) (c : Ball) : Nat → Int → Ball → Option Int → Int
  | 0, pl, _, _ => pl
  | n + 1, pl, x, t => placeF p c n (fcB p pl + adj t (tow p x c)) (dl p c x) (some (tow p (dl p c x) x))
theorem adj_bd {p g : Int} (_hp : Pr p) (t : Option Int) (h0 : 0 ≤ g) (h1 : g ≤ p) (ht : ∀ s, t = some s → 0 ≤ s) : 0 ≤ adj t g ∧ adj t g ≤ p := by
  unfold adj
  cases t with
  | none => exact ⟨h0, h1⟩
  | some s =>
    have := ht s rfl
    simp only
    by_cases q : s < g
    · rw [if_pos q]; omega
    · rw [if_neg q]; omega
theorem pl_bd {p pl g : Int} {n : Nat} (hp : Pr p) (h0 : 0 ≤ pl) (h : (pl + 2) * 7 ^ (n + 1) ≤ 4802) (g0 : 0 ≤ g) (g1 : g ≤ p) : pl ≤ 700 ∧ 1 ≤ fcB p pl ∧ fcB p pl ≤ 4802 ∧ (fcB p pl + g + 2) * 7 ^ n ≤ 4802 := by
  have hq : (0 : Int) < 7 ^ n := Int.pow_pos (by omega)
  rw [Int.pow_succ] at h
  have h2 : (pl + 2) * 7 * 7 ^ n ≤ 4802 := by rw [Int.mul_assoc, Int.mul_comm 7]; exact h
  have h3 : (pl + 2) * 7 * 1 ≤ (pl + 2) * 7 * 7 ^ n := Int.mul_le_mul_of_nonneg_left (by omega) (by omega)
  have h4 : fcB p pl + g + 2 ≤ (pl + 2) * 7 ∧ 1 ≤ fcB p pl := by
    unfold fcB Pr at *
    rcases hp with rfl | rfl | rfl | rfl <;> (split <;> omega)
  refine ⟨by omega, h4.2, by omega, ?_⟩
  have := Int.mul_le_mul_of_nonneg_right (c := 7 ^ n) h4.1 (by omega)
  omega
end PM
namespace PM
theorem dist_way {p : Int} (hp : Pr p) (x : Nat → Ball) (k : Nat → Int) (h0 : Ok p (x 0)) : ∀ n : Nat, (∀ i, i < n → 0 ≤ k i ∧ k i ≤ p ∧ nbr p (x i) (k i) = some (x (i + 1))) → (∀ i, i + 1 < n → x (i + 2) ≠ x i) → Ok p (x n) ∧ dist p (x n) (x 0) = n ∧ (∀ m, n = m + 1 → Ok p (x m) ∧ dist p (x m) (x 0) = m ∧ dist p (x n) (x m) = 1) := by
  intro n
  induction n with
  | zero => intro _ _; exact ⟨h0, by have := (ch hp h0 h0).2 rfl; omega, fun m h => by omega⟩
  | succ n ih =>
    intro hk hb
    obtain ⟨o, d, hm⟩ := ih (fun i hi => hk i (by omega)) (fun i hi => hb i (by omega))
    obtain ⟨k0, k1, k2⟩ := hk n (by omega)
    have o1 := nbr_ok hp k2
    have one := dist_one hp o k2 o1
    refine ⟨o1, ?_, fun m e => ?_⟩
    · have dd := fo hp o h0 k2
      rcases Nat.eq_zero_or_pos n with z | z
      · subst z; have := ev o1 h0; omega
      · obtain ⟨m, rfl⟩ : ∃ m, n = m + 1 := ⟨n - 1, by omega⟩
        obtain ⟨om, dm, d1⟩ := hm m rfl
        have hne : x (m + 1) ≠ x 0 := fun q => by have := (ch hp o h0).2 q; omega
        rcases dd with dd | dd
        · omega
        · exfalso
          have e1 := (eu hp o h0 hne k0 k1 k2).1 (by omega)
          have tb := tow_bd hp (x (m + 1)) (x m)
          have e2 := (nbr_iff hp o om d1 tb.1 tb.2).2 rfl
          have e3 := (eu hp o h0 hne tb.1 tb.2 e2).1 (by omega)
          rw [e1, ← e3, e2] at k2
          exact hb m (by omega) (Option.some.inj k2).symm
    · obtain rfl : n = m := by omega
      exact ⟨o, d, by rw [eJ]; exact one⟩
end PM
namespace PM
def someN (p : Int) (x : Ball) : Nat → Int → Option (List Ball)
  | 0, _ => some []
  | c + 1, k => (nbr p x k).bind fun y => (someN p x c (k + 1)).map fun l => y :: l
def nbrs (p : Int) (x : Ball) : Option (List Ball) := someN p x (p.toNat + 1) 0
theorem someN_mem {p : Int} {x : Ball} : ∀ (c : Nat) (k : Int) (l : List Ball), someN p x c k = some l → ∀ y, y ∈ l → ∃ j, k ≤ j ∧ j < k + c ∧ nbr p x j = some y
  | 0, k, l, h, y, hy => by
    obtain rfl := Option.some.inj h
    cases hy
  | c + 1, k, l, h, y, hy => by
    unfold someN at h
    obtain ⟨z, e1, e2⟩ := Option.bind_eq_some_iff.mp h
    obtain ⟨m, e3, rfl⟩ := Option.map_eq_some_iff.mp e2
    rcases List.mem_cons.mp hy with rfl | hy
    · exact ⟨k, by omega, by omega, e1⟩
    · obtain ⟨j, j1, j2, j3⟩ := someN_mem c (k + 1) m e3 y hy
      exact ⟨j, by omega, by omega, j3⟩
theorem someN_len {p : Int} {x : Ball} : ∀ (c : Nat) (k : Int) (l : List Ball), someN p x c k = some l → l.length = c
  | 0, k, l, h => by obtain rfl := Option.some.inj h; rfl
  | c + 1, k, l, h => by
    unfold someN at h
    obtain ⟨z, e1, e2⟩ := Option.bind_eq_some_iff.mp h
    obtain ⟨m, e3, rfl⟩ := Option.map_eq_some_iff.mp e2
    simp [someN_len c (k + 1) m e3]
def nextS (p : Int) (b : Ball) (n : Int) : List Ball → Option (List Ball)
  | [] => some []
  | x :: l => (nbrs p x).bind fun m => (nextS p b n l).map fun r => m.filter (fun y => decide (dist p b y = n + 1)) ++ r
def sph (p : Int) (b : Ball) : Nat → Option (List Ball)
  | 0 => some [b]
  | n + 1 => (sph p b n).bind (nextS p b n)
theorem nextS_mem {p : Int} (hp : Pr p) {b : Ball} {n : Int} : ∀ (l r : List Ball), nextS p b n l = some r → ∀ y, y ∈ r → Ok p y ∧ dist p b y = n + 1
  | [], r, h, y, hy => by obtain rfl := Option.some.inj h; cases hy
  | x :: l, r, h, y, hy => by
    unfold nextS at h
    obtain ⟨m, e1, e2⟩ := Option.bind_eq_some_iff.mp h
    obtain ⟨s, e3, rfl⟩ := Option.map_eq_some_iff.mp e2
    rcases List.mem_append.mp hy with hy | hy
    · obtain ⟨h1, h2⟩ := List.mem_filter.mp hy
      obtain ⟨j, _, _, j3⟩ := someN_mem _ _ _ e1 y h1
      exact ⟨nbr_ok hp j3, of_decide_eq_true h2⟩
    · exact nextS_mem hp l s e3 y hy
theorem sph_mem {p : Int} (hp : Pr p) {b : Ball} (hb : Ok p b) : ∀ (n : Nat) (l : List Ball), sph p b n = some l → ∀ x, x ∈ l → Ok p x ∧ dist p b x = n
  | 0, l, h, x, hx => by
    obtain rfl := Option.some.inj h
    obtain rfl := List.mem_singleton.mp hx
    exact ⟨hb, by have := (ch hp hb hb).2 rfl; omega⟩
  | n + 1, l, h, x, hx => by
    unfold sph at h
    obtain ⟨m, _, e2⟩ := Option.bind_eq_some_iff.mp h
    obtain ⟨o, d⟩ := nextS_mem hp m l e2 x hx
    exact ⟨o, by rw [d]; omega⟩
theorem beyond {p : Int} (hp : Pr p) {b x y : Ball} (hb : Ok p b) (hx : Ok p x) {n k : Int} (hd : dist p b x = n) (h : nbr p x k = some y) : dist p b y > n ↔ dist p b y = n + 1 := by
  have := fo hp hx hb h
  rw [eJ p y b, eJ p x b] at this
  omega
theorem someN_some {p : Int} {x : Ball} (h0 : -6 < x.lv) (h1 : x.lv < 6) : ∀ (c : Nat) (k : Int), ∃ l, someN p x c k = some l
  | 0, _ => ⟨[], rfl⟩
  | c + 1, k => by
    obtain ⟨l, e⟩ := someN_some (p := p) h0 h1 c (k + 1)
    have : ∃ y, nbr p x k = some y := by
      unfold nbr about
      by_cases z : k = 0
      · rw [if_pos z, if_pos (show inLv (x.lv - 1) by unfold inLv; omega)]; exact ⟨_, rfl⟩
      · rw [if_neg z, if_pos (show inLv (x.lv + 1) by unfold inLv; omega)]; exact ⟨_, rfl⟩
    obtain ⟨y, ey⟩ := this
    exact ⟨y :: l, by unfold someN; rw [ey, Option.bind_some, e]; rfl⟩
theorem lv_dist {p : Int} {b x : Ball} (hb : Ok p b) (hx : Ok p x) : x.lv - b.lv ≤ dist p b x ∧ b.lv - x.lv ≤ dist p b x := by
  have := jl_bd p hb hx
  unfold dist; omega
theorem nextS_some {p : Int} {b : Ball} {n : Int} : ∀ (l : List Ball), (∀ x, x ∈ l → -6 < x.lv ∧ x.lv < 6) → ∃ r, nextS p b n l = some r
  | [], _ => ⟨[], rfl⟩
  | x :: l, h => by
    obtain ⟨h0, h1⟩ := h x List.mem_cons_self
    obtain ⟨m, e1⟩ := someN_some (p := p) h0 h1 (p.toNat + 1) 0
    obtain ⟨r, e2⟩ := nextS_some (p := p) (b := b) (n := n) l (fun y hy => h y (List.mem_cons_of_mem _ hy))
    exact ⟨_, by unfold nextS nbrs; rw [e1, Option.bind_some, e2]; rfl⟩
theorem sph_some {p : Int} (hp : Pr p) {b : Ball} (hb : Ok p b) : ∀ (n : Nat), -6 < b.lv - n + 1 → b.lv + n - 1 < 6 → ∃ l, sph p b n = some l
  | 0, _, _ => ⟨[b], rfl⟩
  | n + 1, h0, h1 => by
    obtain ⟨l, e⟩ := sph_some hp hb n (by omega) (by omega)
    obtain ⟨r, e2⟩ := nextS_some (p := p) (b := b) (n := n) l (fun x hx => by
      obtain ⟨o, d⟩ := sph_mem hp hb n l e x hx
      have := lv_dist hb o
      omega)
    exact ⟨r, by unfold sph; rw [e, Option.bind_some]; exact e2⟩
end PM
namespace PM
def gl (n : Nat) (g : Nat → Nat) : List Int := (List.range n).map fun j => ((g j : Nat) : Int)
theorem gl_len (n : Nat) (g : Nat → Nat) : (gl n g).length = n := by simp [gl]
theorem gl_get {n j : Nat} (g : Nat → Nat) (h : j < n) : (gl n g)[j]? = some ((g j : Nat) : Int) := by
  unfold gl; rw [List.getElem?_map, List.getElem?_range h]; rfl
def GoodG (n : Nat) (g : Nat → Nat) : Prop := ∀ j, j < n → g j ≤ j ∧ g (g j) = g j
def stpF (g : Nat → Nat) (i : Nat) (q : Int) : Nat → Nat := if q < 0 then g else fun j => if g j = max (g i) (g q.toNat) then min (g i) (g q.toNat) else g j
theorem stp_good {n i : Nat} {g : Nat → Nat} {q : Int} (h : GoodG n g) (hi : i < n) (hq : q < (n : Int)) : GoodG n (stpF g i q) := by
  unfold stpF
  by_cases c : q < 0
  · rw [if_pos c]; exact h
  rw [if_neg c]
  have hq2 : q.toNat < n := by omega
  obtain ⟨a1, a2⟩ := h i hi
  obtain ⟨b1, b2⟩ := h q.toNat hq2
  have key : ∀ x y : Nat, g x = x → g y = y → ∀ j, j < n → (if g j = max x y then min x y else g j) ≤ j ∧ (if g (if g j = max x y then min x y else g j) = max x y then min x y else g (if g j = max x y then min x y else g j)) = (if g j = max x y then min x y else g j) := by
    intro x y hx hy j hj
    obtain ⟨c1, c2⟩ := h j hj
    have hm : g (min x y) = min x y := by
      rcases Nat.le_total x y with l | l
      · rw [Nat.min_eq_left l]; exact hx
      · rw [Nat.min_eq_right l]; exact hy
    by_cases e : g j = max x y
    · rw [if_pos e]
      refine ⟨by omega, ?_⟩
      rw [hm]
      by_cases e2 : min x y = max x y
      · rw [if_pos e2]
      · rw [if_neg e2]
    · rw [if_neg e, c2, if_neg e]
      exact ⟨c1, rfl⟩
  exact fun j hj => key (g i) (g q.toNat) a2 b2 j hj
def lead (g : Nat → Nat) (i : Nat) : List Nat := (List.range i).filter fun j => decide (g j = j)
def cls (g : Nat → Nat) (m i : Nat) : List Int := ((List.range i).filter fun j => decide (g j = m)).map fun j => ((j : Nat) : Int)
def rk (g : Nat → Nat) (m : Nat) : Nat := (lead g m).length
theorem lead_succ (g : Nat → Nat) (i : Nat) : lead g (i + 1) = lead g i ++ (if g i = i then [i] else []) := by
  unfold lead
  rw [List.range_succ, List.filter_append]
  congr 1
  by_cases c : g i = i
  · rw [if_pos c]; simp [c]
  · rw [if_neg c]; simp [c]
theorem cls_succ (g : Nat → Nat) (m i : Nat) : cls g m (i + 1) = cls g m i ++ (if g i = m then [((i : Nat) : Int)] else []) := by
  unfold cls
  rw [List.range_succ, List.filter_append, List.map_append]
  congr 1
  by_cases c : g i = m
  · rw [if_pos c]; simp [c]
  · rw [if_neg c]; simp [c]
theorem cls_self {n i : Nat} {g : Nat → Nat} (h : GoodG n g) (hi : i < n) : cls g i i = [] := by
  unfold cls
  have : (List.range i).filter (fun j => decide (g j = i)) = [] := by
    rw [List.filter_eq_nil_iff]
    intro j hj
    have hj := List.mem_range.mp hj
    have := (h j (by omega)).1
    simp; omega
  rw [this]; rfl
theorem lead_le (g : Nat → Nat) (i : Nat) : (lead g i).length ≤ i := by
  unfold lead
  have := List.length_filter_le (fun j => decide (g j = j)) (List.range i)
  simpa using this
theorem cls_le (g : Nat → Nat) (m i : Nat) : (cls g m i).length ≤ i := by
  unfold cls
  have := List.length_filter_le (fun j => decide (g j = m)) (List.range i)
  simpa using this
theorem lead_lt (g : Nat → Nat) {i x : Nat} (h : x ∈ lead g i) : x < i := by
  unfold lead at h
  exact List.mem_range.mp (List.mem_filter.mp h).1
theorem lead_split {g : Nat → Nat} {m : Nat} (hm : g m = m) : ∀ d, ∃ C, lead g (m + 1 + d) = lead g m ++ m :: C ∧ ∀ c, c ∈ C → c ≠ m := by
  intro d
  induction d with
  | zero => exact ⟨[], by rw [Nat.add_zero, lead_succ, if_pos hm], by simp⟩
  | succ d ih =>
    obtain ⟨C, e, hC⟩ := ih
    refine ⟨C ++ (if g (m + 1 + d) = m + 1 + d then [m + 1 + d] else []), ?_, ?_⟩
    · rw [show m + 1 + (d + 1) = (m + 1 + d) + 1 by omega, lead_succ, e, List.append_assoc, List.cons_append]
    · intro c hc
      rcases List.mem_append.mp hc with hc | hc
      · exact hC c hc
      · by_cases q : g (m + 1 + d) = m + 1 + d
        · rw [if_pos q, List.mem_singleton] at hc; omega
        · rw [if_neg q] at hc; cases hc
def out (g : Nat → Nat) (i : Nat) : List (List Int) := (lead g i).map fun m => cls g m i
theorem out_len (g : Nat → Nat) (i : Nat) : (out g i).length = (lead g i).length := by simp [out]
theorem out_new {n i : Nat} {g : Nat → Nat} (h : GoodG n g) (hi : i < n) (c : g i = i) : out g (i + 1) = out g i ++ [[((i : Nat) : Int)]] := by
  unfold out
  rw [lead_succ, if_pos c, List.map_append, List.map_singleton, cls_succ, if_pos c, cls_self h hi]
  congr 1
  refine List.map_congr_left fun m hm => ?_
  have := lead_lt g hm
  rw [cls_succ, if_neg (by omega), List.append_nil]
theorem out_old {n i : Nat} {g : Nat → Nat} (h : GoodG n g) (hi : i < n) (c : g i ≠ i) : out g (i + 1) = (out g i).set (rk g (g i)) (((out g i).getD (rk g (g i)) []) ++ [((i : Nat) : Int)]) ∧ rk g (g i) < (out g i).length ∧ ((out g i).getD (rk g (g i)) []).length ≤ i := by
  obtain ⟨h1, h2⟩ := h i hi
  have hlt : g i < i := by omega
  obtain ⟨C, e, hC⟩ := lead_split h2 (i - (g i + 1))
  rw [show g i + 1 + (i - (g i + 1)) = i by omega] at e
  have eo : out g i = ((lead g (g i)).map fun m => cls g m i) ++ cls g (g i) i :: (C.map fun m => cls g m i) := by
    unfold out; rw [e]; simp
  have el : ((lead g (g i)).map fun m => cls g m i).length = rk g (g i) := by simp [rk]
  have eg : (out g i).getD (rk g (g i)) [] = cls g (g i) i := by
    rw [eo, ← el]; simp
  refine ⟨?_, by rw [eo, List.length_append, el, List.length_cons]; omega, by rw [eg]; exact cls_le g _ _⟩
  rw [eg, eo, ← el, List.set_append_right _ _ (Nat.le_refl _), Nat.sub_self, List.set_cons_zero]
  unfold out
  rw [lead_succ, if_neg c, List.append_nil, e, List.map_append, List.map_cons, cls_succ, if_pos rfl]
  congr 1
  · refine List.map_congr_left fun m hm => ?_
    have := lead_lt g hm
    rw [cls_succ, if_neg (by omega), List.append_nil]
  · congr 1
    refine List.map_congr_left fun m hm => ?_
    have := hC m hm
    rw [cls_succ, if_neg (fun z => this z.symm), List.append_nil]
end PM
