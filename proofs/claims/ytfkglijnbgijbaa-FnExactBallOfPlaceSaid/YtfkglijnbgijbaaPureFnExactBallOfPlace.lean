/- The program's BallOfPlace and the reference's return the same, for all arguments: the printed functions' law answers true. -/
import Derived.Test.YtfkglijnbgijbaaQLFnExactBallOfPlace
import Derived.Test.YtfkglijnbgijbaaMath
set_option linter.unusedVariables false
set_option linter.unusedSimpArgs false
namespace Go.Proofs.Ytfkglijnbgijbaa.Pure
open Go.RowKit Go.Proofs.Ytfkglijnbgijbaa.PAll Go.Proofs.YtfkglijnbgijbaaW.PrintWords Go.Proofs.YtfkglijnbgijbaaW.PrintLast PM

theorem w64 {n : Int} (h1 : -9223372036854775808 ≤ n) (h2 : n ≤ 9223372036854775807) : wrap64 n = n := by unfold wrap64; omega
theorem prime_cases (p : Int) : (spec_l01Prime.f p = some true ∧ (p = 2 ∨ p = 3 ∨ p = 5 ∨ p = 7)) ∨ (spec_l01Prime.f p = some false ∧ ¬ (p = 2 ∨ p = 3 ∨ p = 5 ∨ p = 7)) := by
 unfold spec_l01Prime.f
 by_cases h2 : p = 2
 ·
  simp [h2]
 by_cases h3 : p = 3
 ·
  simp [h3]
 by_cases h5 : p = 5
 ·
  simp [h5]
 by_cases h7 : p = 7
 ·
  simp [h7]
 ·
  simp [h2, h3, h5, h7]

theorem isPrime_eq (p : Int) : impl_isPrime.f p = spec_l01Prime.f p := rfl

theorem in_eq (n a b : Int) : spec_l01In.f n a b = some (decide (a ≤ n ∧ n ≤ b)) := by
 unfold spec_l01In.f
 by_cases h : a ≤ n
 ·
  rw [if_pos h]; simp [h]
 ·
  rw [if_neg (by omega)]; simp [h]

theorem parent_eq (p i : Int) (hp : p = 2 ∨ p = 3 ∨ p = 5 ∨ p = 7) (h0 : -1000000 ≤ i) (h1 : i ≤ 1000000) : spec_l07Parent.f p i = some (if i ≤ p + 1 then 0 else (i - p - 2) / p + 1) := by
 unfold spec_l07Parent.f
 rw [w64 (by omega) (by omega)]
 by_cases h : i ≤ p + 1
 ·
  rw [if_pos h, if_pos h]
 ·
  rw [if_neg h, if_neg h, if_neg (by omega), w64 (n := i - p) (by omega) (by omega), w64 (n := i - p - 2) (by omega) (by omega), Int.tdiv_eq_ediv_of_nonneg (by omega)]
  have : 0 ≤ (i - p - 2) / p ∧ (i - p - 2) / p ≤ 1000000 := by
   rcases hp with rfl | rfl | rfl | rfl <;> omega
  rw [w64 (n := (i - p - 2) / p) (by omega) (by omega), w64 (by omega) (by omega)]

theorem parentPlace_eq (p i : Int) : impl_parentPlace.f p i = spec_l07Parent.f p i := rfl

/-- the first child of a place, how many there are, and all of them -/
def fc (p i : Int) : Int := if i = 0 then 1 else p + 2 + (i - 1) * p
def cn (p i : Int) : Int := if i = 0 then p + 1 else p
theorem child_eq (p i : Int) (hp : p = 2 ∨ p = 3 ∨ p = 5 ∨ p = 7) (h0 : 0 ≤ i) (h1 : i ≤ 5000) : spec_l07Child.f p i = some (fc p i, cn p i) := by
 unfold spec_l07Child.f fc cn
 by_cases h : i = 0
 ·
  rw [if_pos h, if_pos h, if_pos h, w64 (by omega) (by omega)]
 ·
  rw [if_neg h, if_neg h, if_neg h, w64 (n := i - 1) (by omega) (by omega), w64 (n := p + 2) (by omega) (by omega)]
  have : 0 ≤ (i - 1) * p ∧ (i - 1) * p ≤ 50000 := by rcases hp with rfl | rfl | rfl | rfl <;> omega
  rw [w64 (n := (i - 1) * p) (by omega) (by omega), w64 (by omega) (by omega)]

theorem firstChild_eq (p i : Int) (hp : p = 2 ∨ p = 3 ∨ p = 5 ∨ p = 7) (h0 : 0 ≤ i) (h1 : i ≤ 5000) : impl_firstChild.f p i = some (fc p i) := by
 unfold impl_firstChild.f fc
 by_cases h : i = 0
 ·
  rw [if_pos h, if_pos h]
 ·
  rw [if_neg h, if_neg h, w64 (n := i - 1) (by omega) (by omega), w64 (n := p + 2) (by omega) (by omega)]
  have : 0 ≤ (i - 1) * p ∧ (i - 1) * p ≤ 50000 := by rcases hp with rfl | rfl | rfl | rfl <;> omega
  rw [w64 (n := (i - 1) * p) (by omega) (by omega), w64 (by omega) (by omega)]

theorem all_drop {α : Type} (P : α → Bool) (l : List α) (i : Nat) (h : i < l.length) : (l.drop i).all P = (P (l[i]'h) && (l.drop (i + 1)).all P) := by
 rw [List.drop_eq_getElem_cons h]; rfl
theorem tmod_zero_iff (n p : Int) : n.tmod p = 0 ↔ p ∣ n := Int.dvd_iff_tmod_eq_zero.symm

theorem val_eq (p n : Int) (hp : Pr p) (hn : n ≠ 0) (hb : n.natAbs ≤ 9223372036854775807) : ∀ k, 70 ≤ k → spec_l01Val.f k p n = some (vl p n : Int) := by
 have hp2 := hp.pos
 have go : ∀ (v k : Nat) (n s : Int), n ≠ 0 → n.natAbs ≤ 9223372036854775807 → vl p n = v → v < k → 0 ≤ s → s + v ≤ 1000000 → spec_l01Val.l0 k p n s = some (s + v) := by
  intro v
  induction v with
  | zero =>
   intro k n s hn hb hv hk h0 h1
   obtain ⟨k, rfl⟩ : ∃ m, k = m + 1 := ⟨k - 1, by omega⟩
   simp only [spec_l01Val.l0]
   rw [if_neg (by omega), if_neg (by rw [tmod_zero_iff]; exact (vl_zero_iff hp hn).1 hv)]
   simp
  | succ v ih =>
   intro k n s hn hb hv hk h0 h1
   obtain ⟨k, rfl⟩ : ∃ m, k = m + 1 := ⟨k - 1, by omega⟩
   have hd : p ∣ n := Decidable.byContradiction fun h => by have := (vl_zero_iff hp hn).2 h; omega
   obtain ⟨g1, g2, g3⟩ := vl_step hp hn hd
   simp only [spec_l01Val.l0]
   rw [if_neg (by omega), if_pos (by rw [tmod_zero_iff]; exact hd), w64 (n := n.tdiv p) (by omega) (by omega), w64 (n := s + 1) (by omega) (by omega), ih k _ _ g1 (by omega) (by omega) (by omega) (by omega) (by omega)]
   congr 1; omega
 intro k hk
 have hle := vl_le63 hp hn (by omega)
 unfold spec_l01Val.f
 rw [go (vl p n) k n 0 hn hb rfl (by omega) (by omega) (by omega)]
 congr 1; omega

theorem valuation_eq (p n : Int) (hp : Pr p) (hb : n.natAbs ≤ 9223372036854775807) : ∀ k, 70 ≤ k → impl_valuation.f k p n = some (vz p n) := by
 have hp2 := hp.pos
 have go : ∀ (v k : Nat) (n s : Int), n ≠ 0 → n.natAbs ≤ 9223372036854775807 → vl p n = v → v < k → 0 ≤ s → s + v ≤ 1000000 → impl_valuation.l0 k p n s = some (s + v) := by
  intro v
  induction v with
  | zero =>
   intro k n s hn hb hv hk h0 h1
   obtain ⟨k, rfl⟩ : ∃ m, k = m + 1 := ⟨k - 1, by omega⟩
   simp only [impl_valuation.l0]
   rw [if_neg (by omega), if_neg (by rw [tmod_zero_iff]; exact (vl_zero_iff hp hn).1 hv)]
   simp
  | succ v ih =>
   intro k n s hn hb hv hk h0 h1
   obtain ⟨k, rfl⟩ : ∃ m, k = m + 1 := ⟨k - 1, by omega⟩
   have hd : p ∣ n := Decidable.byContradiction fun h => by have := (vl_zero_iff hp hn).2 h; omega
   obtain ⟨g1, g2, g3⟩ := vl_step hp hn hd
   simp only [impl_valuation.l0]
   rw [if_neg (by omega), if_pos (by rw [tmod_zero_iff]; exact hd), w64 (n := n.tdiv p) (by omega) (by omega), w64 (n := s + 1) (by omega) (by omega), ih k _ _ g1 (by omega) (by omega) (by omega) (by omega) (by omega)]
   congr 1; omega
 intro k hk
 unfold impl_valuation.f vz
 by_cases h0 : n = 0
 ·
  rw [if_pos h0, if_pos h0]
 ·
  have hle := vl_le63 hp h0 (by omega)
  rw [if_neg h0, if_neg h0, go (vl p n) k n 0 h0 hb rfl (by omega) (by omega) (by omega)]
  congr 1; omega

theorem pw_bd (p k : Int) (hp : Pr p) (h : k ≤ 20) : 1 ≤ pw p k ∧ pw p k ≤ 79792266297612001 := by
 have h1 := pw_pos2 hp k
 have h2 := pw_le hp h
 have h3 : pw p 20 ≤ 79792266297612001 := by
  rcases hp with rfl | rfl | rfl | rfl <;> decide +kernel
 omega
theorem pw_bd12 (p k : Int) (hp : Pr p) (h : k ≤ 12) : 1 ≤ pw p k ∧ pw p k ≤ 13841287201 := by
 have h1 := pw_pos2 hp k
 have h2 := pw_le hp h
 have h3 : pw p 12 ≤ 13841287201 := by
  rcases hp with rfl | rfl | rfl | rfl <;> decide +kernel
 omega
theorem pw_bd6 (p k : Int) (hp : Pr p) (h : k ≤ 6) : 1 ≤ pw p k ∧ pw p k ≤ 117649 := by
 have h1 := pw_pos2 hp k
 have h2 := pw_le hp h
 have h3 : pw p 6 ≤ 117649 := by
  rcases hp with rfl | rfl | rfl | rfl <;> decide +kernel
 omega
theorem pw_succ (p k : Int) (h : 0 ≤ k) : pw p (k + 1) = pw p k * p := by
 rw [pw_add h (by omega), pw_one]

theorem l01Power_eq (p n : Int) (hp : Pr p) (h : n ≤ 20) (h0 : -9223372036854775808 ≤ n) : ∀ k, 30 ≤ k → spec_l01Power.f k p n = some (pw p n) := by
 have hp2 := hp.pos
 have go : ∀ (d k : Nat) (n out j : Int), n = d → 0 ≤ j → j + d ≤ 20 → d < k → out = pw p j → spec_l01Power.l0 k p n out = some (pw p (j + d)) := by
  intro d
  induction d with
  | zero =>
   intro k n out j hn hj hs hk ho
   obtain ⟨k, rfl⟩ : ∃ m, k = m + 1 := ⟨k - 1, by omega⟩
   simp only [spec_l01Power.l0]
   rw [if_neg (by omega), ho]; simp
  | succ d ih =>
   intro k n out j hn hj hs hk ho
   obtain ⟨k, rfl⟩ : ∃ m, k = m + 1 := ⟨k - 1, by omega⟩
   simp only [spec_l01Power.l0]
   have hb := pw_bd p (j + 1) hp (by omega)
   have hs1 := pw_succ p j hj
   rw [if_pos (by omega), w64 (n := n - 1) (by omega) (by omega), ho, ← hs1, w64 (by omega) (by omega), ih k (n - 1) _ (j + 1) (by omega) (by omega) (by omega) (by omega) rfl]
   congr 2; omega
 intro k hk
 unfold spec_l01Power.f
 by_cases h1 : n ≤ 0
 ·
  obtain ⟨k, rfl⟩ : ∃ m, k = m + 1 := ⟨k - 1, by omega⟩
  simp only [spec_l01Power.l0]
  rw [if_neg (by omega)]
  simp [pw, show n.toNat = 0 by omega]
 ·
  rw [go n.toNat k n 1 0 (by omega) (by omega) (by omega) (by omega) (by simp [pw])]
  congr 2; omega

theorem power_eq (p n : Int) (hp : Pr p) (h : n ≤ 20) : ∀ k, 30 ≤ k → impl_power.f k p n = some (pw p n) := by
 have hp2 := hp.pos
 have go : ∀ (d k : Nat) (n out j : Int), n = j + d → 0 ≤ j → n ≤ 20 → d < k → out = pw p j → impl_power.l0 k p out n j = some (pw p n) := by
  intro d
  induction d with
  | zero =>
   intro k n out j hn hj hs hk ho
   obtain ⟨k, rfl⟩ : ∃ m, k = m + 1 := ⟨k - 1, by omega⟩
   simp only [impl_power.l0]
   rw [if_neg (by omega), ho]
   congr 2; omega
  | succ d ih =>
   intro k n out j hn hj hs hk ho
   obtain ⟨k, rfl⟩ : ∃ m, k = m + 1 := ⟨k - 1, by omega⟩
   simp only [impl_power.l0]
   have hb := pw_bd p (j + 1) hp (by omega)
   have hs1 := pw_succ p j hj
   rw [if_pos (by omega), w64 (n := j + 1) (by omega) (by omega), ho, ← hs1, w64 (by omega) (by omega), ih k n _ (j + 1) (by omega) (by omega) (by omega) (by omega) rfl]
 intro k hk
 unfold impl_power.f
 by_cases h1 : n ≤ 0
 ·
  obtain ⟨k, rfl⟩ : ∃ m, k = m + 1 := ⟨k - 1, by omega⟩
  simp only [impl_power.l0]
  rw [if_neg (by omega)]
  simp [pw, show n.toNat = 0 by omega]
 ·
  rw [go n.toNat k n 1 0 (by omega) (by omega) (by omega) (by omega) (by simp [pw])]

theorem okSplit (p : Int) (lv top dn : Int) : PM.Ok p ⟨lv, top, dn⟩ ↔ (-6 ≤ lv ∧ lv ≤ 6 ∧ 0 ≤ dn ∧ dn ≤ 6) ∧ ((lv + dn ≤ 0 ∧ top = 0 ∧ dn = 0) ∨ (0 < lv + dn ∧ 0 ≤ top ∧ top < pw p (lv + dn) ∧ (dn = 0 ∨ ¬ p ∣ top))) := by
 unfold PM.Ok; simp only; constructor
 ·
  intro ⟨a, b, c, d, e⟩; exact ⟨⟨a, b, c, d⟩, e⟩
 ·
  intro ⟨⟨a, b, c, d⟩, e⟩; exact ⟨a, b, c, d, e⟩
theorem l01Is_eq (p lv top dn : Int) : ∀ k, 32 ≤ k → spec_l01Is.f k p lv top dn = some (decide (Pr p ∧ PM.Ok p ⟨lv, top, dn⟩)) := by
 intro k hk
 obtain ⟨k, rfl⟩ : ∃ m, k = m + 1 := ⟨k - 1, by omega⟩
 have jt : spec_l01Is.j0 (k + 1) p true lv top dn = some false := by simp [spec_l01Is.j0]
 unfold spec_l01Is.f
 rcases prime_cases p with ⟨h, hp⟩ | ⟨h, hp⟩
 ·
  have hp : Pr p := hp
  rw [h, in_eq, in_eq]
  simp only [Option.bind_some, if_true]
  by_cases h1 : -6 ≤ lv ∧ lv ≤ 6
  ·
   rw [decide_eq_true h1, if_pos rfl]
   by_cases h2 : 0 ≤ dn ∧ dn ≤ 6
   ·
    rw [decide_eq_true h2]
    simp only [Bool.not_true, spec_l01Is.j0]
    rw [if_neg (by simp), w64 (by omega) (by omega)]
    by_cases h3 : lv + dn ≤ 0
    ·
     rw [if_pos h3]
     by_cases h4 : top = 0
     ·
      rw [if_pos h4]
      congr 1; rw [Bool.eq_iff_iff]
      simp only [decide_eq_true_eq, okSplit, beq_iff_eq]
      constructor
      ·
       intro h5; exact ⟨hp, ⟨by omega, Or.inl ⟨h3, h4, h5⟩⟩⟩
      ·
       intro ⟨_, _, h5⟩; omega
     ·
      rw [if_neg h4, decide_eq_false]
      rw [okSplit]; intro ⟨_, _, h5⟩; omega
    ·
     rw [if_neg h3, l01Power_eq p _ hp (by omega) (by omega) k (by omega)]
     have hb := pw_bd12 p (lv + dn) hp (by omega)
     simp only [Option.bind_some]
     rw [in_eq, w64 (by omega) (by omega)]
     simp only [Option.bind_some]
     by_cases h4 : 0 ≤ top ∧ top ≤ pw p (lv + dn) - 1
     ·
      rw [decide_eq_true h4, if_pos rfl]
      by_cases h5 : dn = 0
      ·
       rw [if_pos h5, decide_eq_true]
       rw [okSplit]; exact ⟨hp, by omega, Or.inr ⟨by omega, by omega, by omega, Or.inl h5⟩⟩
      ·
       have hp2 := hp.pos
       rw [if_neg h5, if_neg (by omega)]
       congr 1; rw [Bool.eq_iff_iff]
       simp only [decide_eq_true_eq, okSplit, bne_iff_ne, ne_eq, tmod_zero_iff]
       constructor
       ·
        intro h6; exact ⟨hp, by omega, Or.inr ⟨by omega, by omega, by omega, Or.inr h6⟩⟩
       ·
        intro ⟨_, _, h6⟩ h7
        rcases h6 with h6 | ⟨_, _, _, h6⟩
        ·
         omega
        ·
         rcases h6 with h6 | h6
         ·
          exact h5 h6
         ·
          exact h6 h7
     ·
      rw [decide_eq_false h4, if_neg (by simp), decide_eq_false]
      rw [okSplit]; intro ⟨_, _, h5⟩; omega
   ·
    rw [decide_eq_false h2, Bool.not_false, jt, decide_eq_false]
    rw [okSplit]; intro ⟨_, h5, _⟩; omega
  ·
   rw [decide_eq_false h1, if_neg (by simp), jt, decide_eq_false]
   rw [okSplit]; intro ⟨_, h5, _⟩; omega
 ·
  rw [h]
  simp only [Option.bind_some]
  rw [if_neg (by simp), jt, decide_eq_false]
  intro ⟨h1, _⟩; exact hp h1

theorem isLevel_eq (n : Int) : impl_isLevel.f n = some (decide (-6 ≤ n ∧ n ≤ 6)) := by
 unfold impl_isLevel.f
 by_cases h : -6 ≤ n
 ·
  rw [if_pos h]; simp [h]
 ·
  rw [if_neg (by omega)]; simp [h]
theorem IsBall_eq (p lv top dn : Int) : ∀ k, 32 ≤ k → impl_IsBall.f k p lv top dn = some (decide (Pr p ∧ PM.Ok p ⟨lv, top, dn⟩)) := by
 intro k hk
 obtain ⟨k, rfl⟩ : ∃ m, k = m + 1 := ⟨k - 1, by omega⟩
 have jt : impl_IsBall.j0 (k + 1) p true lv top dn = some false := by simp [impl_IsBall.j0]
 unfold impl_IsBall.f
 rw [isPrime_eq]
 rcases prime_cases p with ⟨h, hp⟩ | ⟨h, hp⟩
 ·
  have hp : Pr p := hp
  rw [h, isLevel_eq]
  simp only [Option.bind_some, if_true]
  by_cases h1 : -6 ≤ lv ∧ lv ≤ 6
  ·
   rw [decide_eq_true h1, if_pos rfl]
   by_cases h2 : dn < 0
   ·
    rw [if_pos h2, jt, decide_eq_false]
    rw [okSplit]; intro ⟨_, h5, _⟩; omega
   ·
    rw [if_neg h2]
    by_cases h2' : dn > 6
    ·
     rw [decide_eq_true h2', jt, decide_eq_false]
     rw [okSplit]; intro ⟨_, h5, _⟩; omega
    ·
     rw [decide_eq_false h2']
     simp only [impl_IsBall.j0]
     rw [if_neg (by simp), w64 (by omega) (by omega)]
     by_cases h3 : lv + dn ≤ 0
     ·
      rw [if_pos h3]
      by_cases h4 : top = 0
      ·
       rw [if_pos h4]
       congr 1; rw [Bool.eq_iff_iff]
       simp only [decide_eq_true_eq, okSplit, beq_iff_eq]
       constructor
       ·
        intro h5; exact ⟨hp, ⟨by omega, Or.inl ⟨h3, h4, h5⟩⟩⟩
       ·
        intro ⟨_, _, h5⟩; omega
      ·
       rw [if_neg h4, decide_eq_false]
       rw [okSplit]; intro ⟨_, _, h5⟩; omega
     ·
      rw [if_neg h3]
      have hb := pw_bd12 p (lv + dn) hp (by omega)
      by_cases h4 : top ≥ 0
      ·
       rw [if_pos h4, power_eq p _ hp (by omega) k (by omega)]
       simp only [Option.bind_some]
       by_cases h4' : top < pw p (lv + dn)
       ·
        rw [if_pos h4']
        by_cases h5 : dn = 0
        ·
         rw [if_pos h5, decide_eq_true]
         rw [okSplit]; exact ⟨hp, by omega, Or.inr ⟨by omega, by omega, by omega, Or.inl h5⟩⟩
        ·
         have hp2 := hp.pos
         rw [if_neg h5, if_neg (by omega)]
         congr 1; rw [Bool.eq_iff_iff]
         simp only [decide_eq_true_eq, okSplit, bne_iff_ne, ne_eq, tmod_zero_iff]
         constructor
         ·
          intro h6; exact ⟨hp, by omega, Or.inr ⟨by omega, by omega, by omega, Or.inr h6⟩⟩
         ·
          intro ⟨_, _, h6⟩ h7
          rcases h6 with h6 | ⟨_, _, _, h6⟩
          ·
           omega
          ·
           rcases h6 with h6 | h6
           ·
            exact h5 h6
           ·
            exact h6 h7
       ·
        rw [if_neg h4', decide_eq_false]
        rw [okSplit]; intro ⟨_, _, h5⟩; omega
      ·
       rw [if_neg h4, decide_eq_false]
       rw [okSplit]; intro ⟨_, _, h5⟩; omega
  ·
   rw [decide_eq_false h1, if_neg (by simp), jt, decide_eq_false]
   rw [okSplit]; intro ⟨_, h5, _⟩; omega
 ·
  rw [h]
  simp only [Option.bind_some]
  rw [if_neg (by simp), jt, decide_eq_false]
  intro ⟨h1, _⟩; exact hp h1

def bOk (p : Int) (x : S34) : Bool := decide (PM.Ok p ⟨x.f0, x.f1, x.f2⟩)
theorem rdB (l : List S34) (i : Nat) (h : i < l.length) : rd_T34 l (i : Int) = l[i]'h := by
 unfold rd_T34; simp [List.getD_eq_getElem?_getD, h]

theorem l01Code_eq (p : Int) (l : List S34) (hl : l.length ≤ 1000) : ∃ K, ∀ k, K ≤ k → spec_l01Code.f k p l = some (if Pr p ∧ l.all (bOk p) = true then 0 else 1) := by
 rcases prime_cases p with ⟨h, hp⟩ | ⟨h, hp⟩
 ·
  have hp : Pr p := hp
  have go : ∀ (d i k : Nat), i + d = l.length → d + 34 ≤ k → spec_l01Code.l0 k p l i = some (if (l.drop i).all (bOk p) = true then 0 else 1) := by
   intro d
   induction d with
   | zero =>
    intro i k hi hk
    obtain ⟨k, rfl⟩ : ∃ m, k = m + 1 := ⟨k - 1, by omega⟩
    simp only [spec_l01Code.l0]
    rw [if_neg (by omega), List.drop_eq_nil_of_le (by omega)]; rfl
   | succ d ih =>
    intro i k hi hk
    obtain ⟨k, rfl⟩ : ∃ m, k = m + 1 := ⟨k - 1, by omega⟩
    simp only [spec_l01Code.l0]
    rw [if_pos (by omega), if_pos (by omega), rdB l i (by omega), l01Is_eq _ _ _ _ k (by omega), all_drop (bOk p) l i (by omega), w64 (by omega) (by omega), show ((i : Int) + 1) = ((i + 1 : Nat) : Int) from by omega, ih (i + 1) k (by omega) (by omega)]
    simp only [Option.bind_some]
    show _ = some (if (decide (PM.Ok _ _) && _) = true then _ else _)
    by_cases h : PM.Ok p ⟨(l[i]'(by omega)).f0, (l[i]'(by omega)).f1, (l[i]'(by omega)).f2⟩
    ·
     rw [decide_eq_true h, decide_eq_true ⟨hp, h⟩]; simp
    ·
     rw [decide_eq_false h, decide_eq_false (fun g => h g.2)]; simp
  refine ⟨l.length + 34, fun k hk => ?_⟩
  unfold spec_l01Code.f
  rw [h]
  simp only [Option.bind_some, if_true]
  have := go l.length 0 k (by omega) (by omega)
  rw [show ((0 : Nat) : Int) = 0 from rfl, List.drop_zero] at this
  rw [this]
  by_cases g : l.all (bOk p) = true
  ·
   rw [if_pos g, if_pos ⟨hp, g⟩]
  ·
   rw [if_neg g, if_neg (fun z => g z.2)]
 ·
  refine ⟨0, fun k _ => ?_⟩
  unfold spec_l01Code.f
  rw [h]
  simp only [Option.bind_some]
  rw [if_neg (by simp), if_neg (fun z => hp z.1)]

theorem mul_bd2 {a b : Int} (A B : Int) (h1 : -A ≤ a) (h2 : a ≤ A) (h3 : -B ≤ b) (h4 : b ≤ B) : -(A * B) ≤ a * b ∧ a * b ≤ A * B := by
 have hA : 0 ≤ A := by omega
 have hB : 0 ≤ B := by omega
 have h : (a * b).natAbs ≤ A.natAbs * B.natAbs := by
  rw [Int.natAbs_mul]; exact Nat.mul_le_mul (by omega) (by omega)
 rw [← Int.natAbs_mul] at h
 have : 0 ≤ A * B := Int.mul_nonneg hA hB
 omega
theorem mx_max (a b : Int) : mx a b = max a b := by unfold mx; split <;> omega
theorem okb {p lv top dn : Int} (h : PM.Ok p ⟨lv, top, dn⟩) : -6 ≤ lv ∧ lv ≤ 6 ∧ 0 ≤ dn ∧ dn ≤ 6 ∧ 0 ≤ top := by
 unfold PM.Ok at h; simp only at h; omega
theorem ok_top {p lv top dn : Int} (hp : Pr p) (h : PM.Ok p ⟨lv, top, dn⟩) : 0 ≤ top ∧ top ≤ 13841287201 := by
 have hb := okb h
 have := pw_bd12 p (lv + dn) hp (by omega)
 unfold PM.Ok at h; simp only at h; omega
theorem mark_bd12 {p lv top dn : Int} (hp : Pr p) (h : PM.Ok p ⟨lv, top, dn⟩) : 0 ≤ PM.mark p ⟨lv, top, dn⟩ ∧ PM.mark p ⟨lv, top, dn⟩ ≤ 13841287201 := by
 have hb := okb h
 have := PM.mark_bd hp h
 have := pw_bd12 p (lv + 6) hp (by omega)
 simp only at *; omega

theorem mark_eq {p lv top dn : Int} (hp : Pr p) (h : PM.Ok p ⟨lv, top, dn⟩) : ∀ k, 30 ≤ k → impl_mark.f k p lv top dn = some (PM.mark p ⟨lv, top, dn⟩) := by
 intro k hk
 have hb := okb h
 have hm := mark_bd12 hp h
 unfold impl_mark.f
 rw [w64 (n := 6 - dn) (by omega) (by omega), power_eq p _ hp (by omega) k hk]
 simp only [Option.bind_some]
 unfold PM.mark at hm ⊢
 simp only at hm ⊢
 rw [w64 (by omega) (by omega)]

theorem l01Power_eq2 (p n : Int) (hp : Pr p) (h : n ≤ 62) (h1 : pw p n ≤ 4611686018427387904) (h0 : -9223372036854775808 ≤ n) : ∀ k, 70 ≤ k → spec_l01Power.f k p n = some (pw p n) := by
 have hp2 := hp.pos
 have hle : ∀ j : Int, j ≤ n → 1 ≤ pw p j ∧ pw p j ≤ 4611686018427387904 := fun j hj => by
  have := pw_le hp hj; have := pw_pos2 hp j; omega
 have go : ∀ (d k : Nat) (m out j : Int), m = d → n = j + d → 0 ≤ j → d < k → out = pw p j → spec_l01Power.l0 k p m out = some (pw p n) := by
  intro d
  induction d with
  | zero =>
   intro k m out j hm hn hj hk ho
   obtain ⟨k, rfl⟩ : ∃ m, k = m + 1 := ⟨k - 1, by omega⟩
   simp only [spec_l01Power.l0]
   rw [if_neg (by omega), ho]
   congr 2; omega
  | succ d ih =>
   intro k m out j hm hn hj hk ho
   obtain ⟨k, rfl⟩ : ∃ m, k = m + 1 := ⟨k - 1, by omega⟩
   simp only [spec_l01Power.l0]
   have hb := hle (j + 1) (by omega)
   have hs1 := pw_succ p j hj
   rw [if_pos (by omega), w64 (n := m - 1) (by omega) (by omega), ho, ← hs1, w64 (by omega) (by omega), ih k (m - 1) _ (j + 1) (by omega) (by omega) (by omega) (by omega) rfl]
 intro k hk
 unfold spec_l01Power.f
 by_cases h1 : n ≤ 0
 ·
  obtain ⟨k, rfl⟩ : ∃ m, k = m + 1 := ⟨k - 1, by omega⟩
  simp only [spec_l01Power.l0]
  rw [if_neg (by omega)]
  simp [pw, show n.toNat = 0 by omega]
 ·
  rw [go n.toNat k n 1 0 (by omega) (by omega) (by omega) (by omega) (by simp [pw])]

theorem tmod_fix (a m : Int) (hm : 0 < m) : (a.tmod m + m).tmod m = a % m ∧ -m < a.tmod m ∧ a.tmod m < m := by
 have h1 := Int.tmod_lt_of_pos a hm
 have h2 := Int.lt_tmod_of_pos a hm
 have h3 := Int.mul_tdiv_add_tmod a m
 refine ⟨?_, h2, h1⟩
 rw [Int.tmod_eq_emod_of_nonneg (by omega)]
 rw [show a.tmod m + m = a + m * (1 - a.tdiv m) by rw [Int.mul_sub]; omega, Int.add_mul_emod_self_left]
theorem em_mul (a b m : Int) : (a % m * b) % m = a * b % m := by rw [Int.mul_emod, Int.emod_emod, ← Int.mul_emod]
theorem emb (a m : Int) (hm : 0 < m) : 0 ≤ a % m ∧ a % m < m := ⟨Int.emod_nonneg _ (by omega), Int.emod_lt_of_pos _ hm⟩

theorem mod_eq (a m : Int) (hm : 0 < m) (h2 : m ≤ 4611686018427387904) : impl_mod.f a m = some (a % m) := by
 obtain ⟨e, h3, h4⟩ := tmod_fix a m hm
 unfold impl_mod.f
 rw [if_neg (by omega), w64 (by omega) (by omega), e]

theorem l01MulMod_eq (a b m : Int) (hm : 0 < m) (h2 : m ≤ 13841287201) : spec_l01MulMod.f a b m = some (a * b % m) := by
 obtain ⟨e1, h3, h4⟩ := tmod_fix a m hm
 obtain ⟨e2, h5, h6⟩ := tmod_fix b m hm
 obtain ⟨ha0, ha1⟩ := emb a m hm
 obtain ⟨hb0, hb1⟩ := emb b m hm
 unfold spec_l01MulMod.f
 rw [if_neg (by omega), w64 (n := a.tmod m + m) (by omega) (by omega), w64 (n := b.tmod m + m) (by omega) (by omega), e1, e2]
 have em : a * b % m = (a % m) * (b % m) % m := Int.mul_emod a b m
 rw [em]
 generalize a % m = x at *
 generalize b % m = y at *
 rw [Int.tdiv_eq_ediv_of_nonneg hb0, Int.tmod_eq_emod_of_nonneg hb0]
 have m1 := mul_bd2 (a := x) (b := y / 1000000) 13841287201 13842 (by omega) (by omega) (by omega) (by omega)
 have m2 := mul_bd2 (a := x) (b := y % 1000000) 13841287201 1000000 (by omega) (by omega) (by omega) (by omega)
 have n1 : 0 ≤ x * (y / 1000000) := Int.mul_nonneg ha0 (by omega)
 have n2 : 0 ≤ x * (y % 1000000) := Int.mul_nonneg ha0 (by omega)
 rw [w64 (n := y / 1000000) (by omega) (by omega), w64 (n := x * (y / 1000000)) (by omega) (by omega), Int.tmod_eq_emod_of_nonneg n1, w64 (n := x * (y % 1000000)) (by omega) (by omega), Int.tmod_eq_emod_of_nonneg n2]
 obtain ⟨c0, c1⟩ := emb (x * (y / 1000000)) m hm
 obtain ⟨d0, d1⟩ := emb (x * (y % 1000000)) m hm
 rw [w64 (n := x * (y / 1000000) % m * 1000000) (by omega) (by omega), Int.tmod_eq_emod_of_nonneg (a := x * (y / 1000000) % m * 1000000) (by omega)]
 obtain ⟨f0, f1⟩ := emb (x * (y / 1000000) % m * 1000000) m hm
 rw [w64 (by omega) (by omega), Int.tmod_eq_emod_of_nonneg (a := x * (y / 1000000) % m * 1000000 % m + x * (y % 1000000) % m) (by omega)]
 rw [em_mul, ← Int.add_emod]
 congr 2
 have : y = y / 1000000 * 1000000 + y % 1000000 := by omega
 conv => rhs; rw [this]
 rw [Int.mul_add, Int.mul_assoc]

theorem l01InvMod_eq (n m : Int) (hm : 0 < m) (h2 : m ≤ 1099511627776) : ∀ k, m.toNat + 4 ≤ k → spec_l01InvMod.f k n m = some (inv n m) := by
 have go : ∀ (j : Nat) (n a b x y : Int) (k : Nat), Inv n m a b x y → b < j → a ≤ m → b ≤ m → x.natAbs ≤ m → y.natAbs ≤ m → j < k → spec_l01InvMod.l0 k m a b x y = some (invF j a b x y % m) := by
  intro j
  induction j with
  | zero => intro n a b x y k h hb; have := h.b0; omega
  | succ j ih =>
   intro n a b x y k h hb ham hbm hx hy hk
   obtain ⟨k, rfl⟩ : ∃ i, k = i + 1 := ⟨k - 1, by omega⟩
   have a0 := h.a0; have b0 := h.b0
   simp only [spec_l01InvMod.l0, invF]
   by_cases z : b = 0
   ·
    rw [if_pos z, if_pos z]
    obtain ⟨e, h3, h4⟩ := tmod_fix x m hm
    rw [if_neg (by omega), w64 (by omega) (by omega), e]
   ·
    rw [if_neg z, if_neg z]
    have hb1 : 0 < b := by omega
    obtain ⟨i1, i2, i3, i4⟩ := h.bd
    obtain ⟨i5, i6⟩ := i4 hb1
    have hs := h.step z
    obtain ⟨j1, j2, j3, j4⟩ := hs.bd
    have hy' := j2 hb1
    have hq : 0 ≤ a / b := Int.ediv_nonneg a0 b0
    have hq2 := Int.ediv_le_self b a0
    have hr : a - a / b * b = a % b := by rw [Int.emod_def, Int.mul_comm b]
    obtain ⟨r0, r1⟩ := emb a b hb1
    have hay : (a / b * y).natAbs ≤ m := by
     rw [Int.natAbs_mul]
     have : ((a / b).natAbs * y.natAbs : Nat) = a / b * (y.natAbs : Int) := by
      rw [Int.natCast_mul, Int.natAbs_of_nonneg hq]
     omega
    rw [Int.tdiv_eq_ediv_of_nonneg a0, w64 (n := a / b) (by omega) (by omega), w64 (n := a / b * b) (by omega) (by omega), w64 (n := a - a / b * b) (by omega) (by omega), w64 (n := a / b * y) (by omega) (by omega), w64 (n := x - a / b * y) (by omega) (by omega)]
    exact ih n b (a - a / b * b) y (x - a / b * y) k hs (by omega) hbm (by omega) hy (by omega) (by omega)
 intro k hk
 obtain ⟨h0, h1⟩ := emb n m hm
 unfold spec_l01InvMod.f inv
 obtain ⟨e, h3, h4⟩ := tmod_fix n m hm
 rw [if_neg (by omega), w64 (by omega) (by omega), e]
 exact go (m.toNat + 2) (n % m) (n % m) m 1 0 k (Inv.start h0 (by omega)) (by omega) (by omega) (by omega) (by omega) (by omega) (by omega)

theorem pwvl {p n : Int} (hp : Pr p) (h : n ≠ 0) : 0 < pw p (vl p n) ∧ pw p (vl p n) ≤ (n.natAbs : Int) := by
 refine ⟨pw_pos2 hp _, ?_⟩
 have := Int.le_of_dvd (by omega) (Int.dvd_natAbs.mpr (pw_vl_dvd hp h))
 exact this
theorem un_div {p n : Int} (hp : Pr p) (h : n ≠ 0) : n.tdiv (pw p (vl p n)) = un p n := by
 unfold un; rw [vz_of_ne h, Int.tdiv_eq_ediv_of_dvd (pw_vl_dvd hp h)]
theorem un_bd {p n : Int} (hp : Pr p) (h : n ≠ 0) : (un p n).natAbs ≤ n.natAbs := by
 obtain ⟨e, _⟩ := un_spec hp h
 have h1 := pwvl hp h
 have : n.natAbs = (pw p (vl p n)).natAbs * (un p n).natAbs := by rw [← Int.natAbs_mul, ← e]
 rw [this]
 exact Nat.le_mul_of_pos_left _ (by omega)

def enc : Option PM.Ball → Int × Int × Int × Bool
 | none => (0, 0, 0, false)
 | some b => (b.lv, b.top, b.dn, true)
theorem isLevel_eq' (n : Int) : impl_isLevel.f n = some (decide (PM.inLv n)) := by
 unfold impl_isLevel.f PM.inLv
 congr 1
 by_cases h1 : n ≥ -6 <;> by_cases h2 : n ≤ 6 <;> simp [h1, h2] <;> omega
theorem ofMark_eq {p lv x : Int} (hp : Pr p) : ∀ k, 70 ≤ k → impl_ofMark.f k p lv x = some (enc (if PM.inLv lv then some (PM.mk p lv (x % pw p (lv + 6))) else none)) := by
 intro k hk
 unfold impl_ofMark.f
 rw [isLevel_eq']
 simp only [Option.bind_some]
 by_cases hl : PM.inLv lv
 ·
  have hl' := hl
  unfold PM.inLv at hl'
  have hb := pw_bd12 p (lv + 6) hp (by omega)
  obtain ⟨r0, r1⟩ := emb x (pw p (lv + 6)) (by omega)
  rw [decide_eq_true hl, if_pos rfl, if_pos hl, w64 (n := lv + 6) (by omega) (by omega), power_eq p _ hp (by omega) k (by omega)]
  simp only [Option.bind_some]
  rw [mod_eq x _ (by omega) (by omega)]
  simp only [Option.bind_some]
  generalize x % pw p (lv + 6) = y at *
  rw [valuation_eq p y hp (by omega) k hk]
  simp only [Option.bind_some]
  have hz : 0 ≤ vz p y ∧ vz p y ≤ 1000 := by
   refine ⟨PM.vz_nonneg _ _, ?_⟩
   unfold vz
   by_cases y0 : y = 0
   ·
    rw [if_pos y0]; omega
   ·
    rw [if_neg y0]; have := vl_le63 hp y0 (by omega); omega
  simp only [mx_max]
  rw [w64 (n := 6 - vz p y) (by omega) (by omega), w64 (n := 6 - max (6 - vz p y) 0) (by omega) (by omega), power_eq p _ hp (by omega) k (by omega)]
  simp only [Option.bind_some]
  have hq := pw_bd6 p (6 - max (6 - vz p y) 0) hp (by omega)
  have hd := Int.ediv_le_self (pw p (6 - max (6 - vz p y) 0)) r0
  have hd0 := Int.ediv_nonneg r0 (show 0 ≤ pw p (6 - max (6 - vz p y) 0) by omega)
  rw [if_neg (by omega), Int.tdiv_eq_ediv_of_nonneg r0, w64 (by omega) (by omega)]
  simp only [enc, PM.mk]
 ·
  rw [decide_eq_false hl, if_neg (by simp), if_neg hl]; rfl

theorem l01Of_eq {p n d lv : Int} (hp : Pr p) (hd : d ≠ 0) (hn : n.natAbs ≤ 4611686018427387904) (hdb : d.natAbs ≤ 4611686018427387904) : ∀ k, 13841287300 ≤ k → spec_l01Of.f k p n d lv = some (enc (PM.lOf p n d lv)) := by
 intro k hk
 unfold spec_l01Of.f PM.lOf
 rw [in_eq]
 simp only [Option.bind_some]
 by_cases hl : PM.inLv lv
 ·
  have hl' := hl
  unfold PM.inLv at hl'
  rw [decide_eq_true hl', if_pos rfl, if_neg (show ¬ ¬ PM.inLv lv from fun z => z hl)]
  by_cases z : n = 0
  ·
   rw [if_pos z, if_pos z]; rfl
  ·
   have v1 := vl_le63 hp z (by omega)
   have v2 := vl_le63 hp hd (by omega)
   have v3 := vl_le hp z (k := 63) (by
    have : (2 : Nat) ^ 63 = 9223372036854775808 := by decide
    omega)
   have v4 := vl_le hp hd (k := 63) (by
    have : (2 : Nat) ^ 63 = 9223372036854775808 := by decide
    omega)
   rw [if_neg z, if_neg z, val_eq p n hp z (by omega) k (by omega), val_eq p d hp hd (by omega) k (by omega), vz_of_ne z, vz_of_ne hd]
   simp only [Option.bind_some, mx_max]
   rw [w64 (n := (vl p n : Int) - vl p d) (by omega) (by omega), w64 (n := (vl p d : Int) - vl p n) (by omega) (by omega)]
   by_cases c : lv ≤ (vl p n : Int) - vl p d
   ·
    rw [if_pos c, if_pos c]; rfl
   ·
    rw [if_neg c, if_neg c]
    by_cases e : max ((vl p d : Int) - vl p n) 0 > 6
    ·
     rw [if_pos e, if_pos e]; rfl
    ·
     rw [if_neg e, if_neg (show ¬ 6 < max ((vl p d : Int) - vl p n) 0 from e)]
     have hb := pw_bd12 p (lv + max ((vl p d : Int) - vl p n) 0) hp (by omega)
     have p1 := pwvl hp z
     have p2 := pwvl hp hd
     have u1 := un_bd hp z
     have u2 := un_bd hp hd
     rw [w64 (n := lv + max ((vl p d : Int) - vl p n) 0) (by omega) (by omega), l01Power_eq p _ hp (by omega) (by omega) k (by omega), l01Power_eq2 p (vl p n) hp (by omega) (by omega) (by omega) k (by omega), l01Power_eq2 p (vl p d) hp (by omega) (by omega) (by omega) k (by omega)]
     simp only [Option.bind_some]
     rw [if_neg (by omega), if_neg (by omega), un_div hp z, un_div hp hd, w64 (n := un p n) (by omega) (by omega), w64 (n := un p d) (by omega) (by omega), l01InvMod_eq _ _ (by omega) (by omega) k (by omega)]
     simp only [Option.bind_some]
     rw [l01MulMod_eq _ _ _ (by omega) (by omega), l01Power_eq p (max ((vl p n : Int) - vl p d) 0) hp (by omega) (by omega) k (by omega)]
     simp only [Option.bind_some]
     rw [l01MulMod_eq _ _ _ (by omega) (by omega)]
     rfl
 ·
  rw [decide_eq_false (show ¬ (-6 ≤ lv ∧ lv ≤ 6) from hl), if_neg (by simp), if_pos hl]; rfl
theorem lOf_eq_ballAt {p n d lv : Int} (hp : Pr p) (hd : d ≠ 0) : PM.lOf p n d lv = PM.ballAt p n d lv := (PM.ballAt_eq_lOf hp hd).symm

theorem up_eq {p lv top dn : Int} (hp : Pr p) (h : PM.Ok p ⟨lv, top, dn⟩) : ∀ k, 70 ≤ k → impl_parent.f k p lv top dn = some (enc (PM.about p (lv - 1) (PM.mark p ⟨lv, top, dn⟩))) := by
 intro k hk
 have hb := okb h
 unfold impl_parent.f
 rw [mark_eq hp h k (by omega)]
 simp only [Option.bind_some]
 rw [w64 (n := lv - 1) (by omega) (by omega), ofMark_eq hp k hk]
 rfl

theorem down_eq {p lv top dn a : Int} (hp : Pr p) (h : PM.Ok p ⟨lv, top, dn⟩) (ha : 0 ≤ a ∧ a ≤ 7) : ∀ k, 70 ≤ k → impl_child.f k p lv top dn a = some (enc (PM.about p (lv + 1) (PM.mark p ⟨lv, top, dn⟩ + a * pw p (lv + 6)))) := by
 intro k hk
 have hb := okb h
 have hm := mark_bd12 hp h
 have hq := pw_bd12 p (lv + 6) hp (by omega)
 have m1 := mul_bd2 (a := a) (b := pw p (lv + 6)) 7 13841287201 (by omega) (by omega) (by omega) (by omega)
 unfold impl_child.f
 rw [mark_eq hp h k (by omega), w64 (n := lv + 6) (by omega) (by omega), power_eq p _ hp (by omega) k (by omega)]
 simp only [Option.bind_some]
 rw [w64 (n := lv + 1) (by omega) (by omega), w64 (n := a * pw p (lv + 6)) (by omega) (by omega), w64 (by omega) (by omega), ofMark_eq hp k hk]
 rfl

theorem specUp_eq {p lv top dn : Int} (hp : Pr p) (h : PM.Ok p ⟨lv, top, dn⟩) : ∀ k, 13841287300 ≤ k → spec_l01Parent.f k p lv top dn = some (enc (PM.about p (lv - 1) (PM.mark p ⟨lv, top, dn⟩))) := by
 intro k hk
 have hb := okb h
 have ht := ok_top hp h
 have h6 := pw_bd6 p dn hp (by omega)
 unfold spec_l01Parent.f
 rw [l01Power_eq p dn hp (by omega) (by omega) k (by omega)]
 simp only [Option.bind_some]
 rw [w64 (n := lv - 1) (by omega) (by omega), l01Of_eq hp (by omega) (by omega) (by omega) k hk, lOf_eq_ballAt hp (by omega), show PM.ballAt p top (pw p dn) (lv - 1) = _ from PM.parent_is hp h (lv - 1)]
 rfl

theorem about_out {p l x : Int} (h : ¬ PM.inLv l) : PM.about p l x = none := by unfold PM.about; rw [if_neg h]
theorem specDown_eq {p lv top dn a : Int} (hp : Pr p) (h : PM.Ok p ⟨lv, top, dn⟩) (ha : 0 ≤ a ∧ a ≤ 7) : ∀ k, 13841287300 ≤ k → spec_l01Child.f k p lv top dn a = some (enc (PM.about p (lv + 1) (PM.mark p ⟨lv, top, dn⟩ + a * pw p (lv + 6)))) := by
 intro k hk
 have hb := okb h
 have ht := ok_top hp h
 have h6 := pw_bd6 p dn hp (by omega)
 unfold spec_l01Child.f
 by_cases c : lv = 6
 ·
  rw [if_pos c, about_out (by unfold PM.inLv; omega)]; rfl
 ·
  rw [if_neg c, l01Power_eq p dn hp (by omega) (by omega) k (by omega)]
  simp only [Option.bind_some]
  by_cases g : lv ≥ 0
  ·
   have hl := pw_bd6 p lv hp (by omega)
   have m1 := mul_bd2 (a := a) (b := pw p dn) 7 117649 (by omega) (by omega) (by omega) (by omega)
   have m2 := mul_bd2 (a := a * pw p dn) (b := pw p lv) 823543 117649 (by omega) (by omega) (by omega) (by omega)
   rw [if_pos g, l01Power_eq p lv hp (by omega) (by omega) k (by omega)]
   simp only [Option.bind_some]
   rw [w64 (n := a * pw p dn) (by omega) (by omega), w64 (n := a * pw p dn * pw p lv) (by omega) (by omega), w64 (n := top + a * pw p dn * pw p lv) (by omega) (by omega), w64 (n := lv + 1) (by omega) (by omega)]
   rw [l01Of_eq hp (by omega) (by omega) (by omega) k hk, lOf_eq_ballAt hp (by omega), show PM.ballAt p (top + a * pw p dn * pw p lv) (pw p dn) (lv + 1) = _ from PM.child_hi hp h a (lv + 1) g]
   rfl
  ·
   have hl := pw_bd6 p (-lv) hp (by omega)
   rw [if_neg g, w64 (n := -lv) (by omega) (by omega), l01Power_eq p (-lv) hp (by omega) (by omega) k (by omega)]
   simp only [Option.bind_some]
   rw [if_neg (by omega), if_neg (by omega)]
   obtain ⟨e, f, d, hd, he, hf, e0, e1, f0, f1⟩ : ∃ e f d : Int, d = mx (pw p dn) (pw p (-lv)) ∧ d = pw p dn * e ∧ d = pw p (-lv) * f ∧ 0 ≤ e ∧ e ≤ 117649 ∧ 0 ≤ f ∧ f ≤ 117649 := by
    rw [mx_max]
    rcases Int.le_total dn (-lv) with y | y
    ·
     have := pw_le hp y
     obtain ⟨z, hz⟩ := pw_dvd (p := p) y
     have z0 : 0 ≤ z := by
      rcases Int.lt_or_le z 0 with w | w
      ·
       have := Int.mul_neg_of_pos_of_neg (show 0 < pw p dn by omega) w; omega
      ·
       exact w
     have z1 : z ≤ pw p dn * z := by
      have := Int.mul_le_mul_of_nonneg_right (show 1 ≤ pw p dn by omega) z0; omega
     exact ⟨z, 1, pw p (-lv), by omega, hz, by omega, z0, by omega, by omega, by omega⟩
    ·
     have := pw_le hp y
     obtain ⟨z, hz⟩ := pw_dvd (p := p) y
     have z0 : 0 ≤ z := by
      rcases Int.lt_or_le z 0 with w | w
      ·
       have := Int.mul_neg_of_pos_of_neg (show 0 < pw p (-lv) by omega) w; omega
      ·
       exact w
     have z1 : z ≤ pw p (-lv) * z := by
      have := Int.mul_le_mul_of_nonneg_right (show 1 ≤ pw p (-lv) by omega) z0; omega
     exact ⟨1, z, pw p dn, by omega, by omega, hz, by omega, by omega, z0, by omega⟩
   rw [← hd]
   have hdp : 0 < d ∧ d ≤ 117649 := by rw [hd, mx_max]; omega
   have q1 : d.tdiv (pw p dn) = e := by rw [he]; exact Int.mul_tdiv_cancel_left _ (by omega)
   have q2 : d.tdiv (pw p (-lv)) = f := by rw [hf]; exact Int.mul_tdiv_cancel_left _ (by omega)
   have m1 := mul_bd2 (a := top) (b := e) 13841287201 117649 (by omega) (by omega) (by omega) (by omega)
   have m2 := mul_bd2 (a := a) (b := f) 7 117649 (by omega) (by omega) (by omega) (by omega)
   rw [q1, q2, w64 (n := e) (by omega) (by omega), w64 (n := f) (by omega) (by omega), w64 (n := top * e) (by omega) (by omega), w64 (n := a * f) (by omega) (by omega), w64 (n := top * e + a * f) (by omega) (by omega), w64 (n := lv + 1) (by omega) (by omega)]
   rw [l01Of_eq hp (by omega) (by omega) (by omega) k hk, lOf_eq_ballAt hp (by omega), show PM.ballAt p (top * e + a * f) d (lv + 1) = _ from PM.child_lo hp h a (lv + 1) d e f (show -6 ≤ lv by omega) (show lv < 0 by omega) he hf (by omega)]
   rfl

/-- the next ball by a number: 0 for the parent -/
def nb (p : Int) (b : PM.Ball) (k : Int) : Option PM.Ball := if k = 0 then PM.about p (b.lv - 1) (PM.mark p b) else PM.about p (b.lv + 1) (PM.mark p b + (k - 1) * pw p (b.lv + 6))
theorem neighbour_eq {p lv top dn i : Int} (hp : Pr p) (h : PM.Ok p ⟨lv, top, dn⟩) (hi : 0 ≤ i ∧ i ≤ 8) : ∀ k, 70 ≤ k → impl_neighbour.f k p lv top dn i = some (enc (nb p ⟨lv, top, dn⟩ i)) := by
 intro k hk
 unfold impl_neighbour.f nb
 by_cases z : i = 0
 ·
  rw [if_pos z, if_pos z, up_eq hp h k hk]; rfl
 ·
  rw [if_neg z, if_neg z, w64 (n := i - 1) (by omega) (by omega), down_eq hp h (by omega) k hk]; rfl

theorem beqB (y c : PM.Ball) : (y.lv == c.lv && (y.top == c.top && (y.dn == c.dn))) = decide (y = c) := by
 obtain ⟨a, b, d⟩ := y
 obtain ⟨e, f, g⟩ := c
 rw [Bool.eq_iff_iff]; simp
theorem bneB (y c : PM.Ball) : (!(y.lv == c.lv) || (!(y.top == c.top) || (!(y.dn == c.dn)))) = !(decide (y = c)) := by
 rw [← beqB]; simp
theorem nb_nbr (p : Int) (b : PM.Ball) (k : Int) : nb p b k = PM.nbr p b k := rfl
def enS (b : PM.Ball) : S34 := ⟨b.lv, b.top, b.dn⟩

theorem toward_eq {p : Int} {b c : PM.Ball} (hp : Pr p) (h : PM.Ok p b) (hc : PM.Ok p c) (h1 : PM.dist p b c = 1) : ∀ k, 80 ≤ k → impl_toward.f k p b.lv b.top b.dn c.lv c.top c.dn = some (PM.tow p b c) := by
 have hpl := hp.le
 have hpp := hp.pos
 obtain ⟨t0, t1⟩ := PM.tow_bd hp b c
 have go : ∀ (d : Nat) (i : Int) (k : Nat), 1 ≤ i → i + d = p + 1 → (PM.tow p b c = 0 ∨ i ≤ PM.tow p b c) → d + 71 ≤ k → impl_toward.l0 k p i b.lv b.top b.dn c.lv c.top c.dn = some (PM.tow p b c) := by
  intro d
  induction d with
  | zero =>
   intro i k hi hd ht hk
   obtain ⟨k, rfl⟩ : ∃ m, k = m + 1 := ⟨k - 1, by omega⟩
   simp only [impl_toward.l0]
   rw [if_neg (by omega)]
   congr 1; omega
  | succ d ih =>
   intro i k hi hd ht hk
   obtain ⟨k, rfl⟩ : ∃ m, k = m + 1 := ⟨k - 1, by omega⟩
   simp only [impl_toward.l0]
   rw [if_pos (by omega), neighbour_eq hp h (by omega) k (by omega), nb_nbr, w64 (n := i + 1) (by omega) (by omega)]
   simp only [Option.bind_some]
   have e := PM.nbr_iff hp h hc h1 (k := i) (by omega) (by omega)
   have hn : PM.nbr p b i ≠ some c → PM.tow p b c = 0 ∨ i + 1 ≤ PM.tow p b c := by
    intro z
    have : ¬ (i = PM.tow p b c) := fun q => z (e.2 q)
    omega
   cases hy : PM.nbr p b i with
   | none =>
    rw [if_neg (by simp [enc])]
    exact ih _ _ (by omega) (by omega) (hn (by rw [hy]; simp)) (by omega)
   | some y =>
    rw [if_pos (by simp [enc])]
    by_cases q : y = c
    ·
     have : ((enc (some y)).1 == c.lv && ((enc (some y)).2.1 == c.top && ((enc (some y)).2.2.1 == c.dn))) = true := by
      show (y.lv == c.lv && (y.top == c.top && (y.dn == c.dn))) = true
      rw [beqB, decide_eq_true q]
     rw [if_pos this, ← e.1 (by rw [hy, q])]
    ·
     have : ((enc (some y)).1 == c.lv && ((enc (some y)).2.1 == c.top && ((enc (some y)).2.2.1 == c.dn))) = false := by
      show (y.lv == c.lv && (y.top == c.top && (y.dn == c.dn))) = false
      rw [beqB, decide_eq_false q]
     rw [if_neg (by rw [this]; simp)]
     exact ih _ _ (by omega) (by omega) (hn (by rw [hy]; simpa using q)) (by omega)
 intro k hk
 unfold impl_toward.f
 exact go p.toNat 1 k (by omega) (by omega) (by omega) (by omega)

def num (t : Option Int) (i r : Int) : Int := match t with
 | none => i + 1 + r
 | some t => if i + 1 ≤ t ∧ t ≤ i + 1 + r then i + 1 + r + 1 else i + 1 + r
theorem num_ge (t : Option Int) (i r : Int) : i + 1 + r ≤ num t i r := by
 unfold num; cases t with
 | none => simp
 | some t => simp only; split <;> omega
/-- what is told of the ball before -/
def Bef (p : Int) (b bf : PM.Ball) (sm : Bool) (t : Option Int) : Prop := (sm = false ∧ t = none) ∨ (sm = true ∧ PM.Ok p bf ∧ PM.dist p b bf = 1 ∧ t = some (PM.tow p b bf))
theorem num_skip {p : Int} {b bf : PM.Ball} {sm : Bool} {t : Option Int} (h : Bef p b bf sm t) (hp : Pr p) (hb : PM.Ok p b) (i r : Int) (hi : -1 ≤ i) (hip : i + 1 ≤ p) (hs : sm = true) (hy : PM.nbr p b (i + 1) = some bf) (hr : 0 ≤ r) : num t (i + 1) r = num t i r := by
 rcases h with ⟨h, _⟩ | ⟨_, o, d, rfl⟩
 ·
  rw [h] at hs; cases hs
 ·
  have := (PM.nbr_iff hp hb o d (k := i + 1) (by omega) hip).1 hy
  unfold num; simp only
  rw [if_neg (by omega), if_pos (by omega)]; omega
theorem num_take {p : Int} {b bf : PM.Ball} {sm : Bool} {t : Option Int} (h : Bef p b bf sm t) (hp : Pr p) (hb : PM.Ok p b) (i r : Int) (hi : -1 ≤ i) (hip : i + 1 ≤ p) (hy : sm = true → PM.nbr p b (i + 1) ≠ some bf) (hr : 0 ≤ r) : num t i 0 = i + 1 ∧ num t (i + 1) (r - 1) = num t i r := by
 rcases h with ⟨h, rfl⟩ | ⟨h, o, d, rfl⟩
 ·
  unfold num; simp only; omega
 ·
  have hne : ¬ (i + 1 = PM.tow p b bf) := fun q => hy h ((PM.nbr_iff hp hb o d (k := i + 1) (by omega) hip).2 q)
  unfold num; simp only
  refine ⟨by rw [if_neg (by omega)]; omega, ?_⟩
  by_cases q : i + 1 ≤ PM.tow p b bf ∧ PM.tow p b bf ≤ i + 1 + r
  ·
   rw [if_pos q, if_pos (by omega)]; omega
  ·
   rw [if_neg q, if_neg (by omega)]; omega
theorem next_go {p : Int} {b bf : PM.Ball} {sm : Bool} {t : Option Int} (h : Bef p b bf sm t) (hp : Pr p) (hb : PM.Ok p b) : ∀ (d : Nat) (i r : Int) (k : Nat), 0 ≤ i → i + d = p → 0 ≤ r → r ≤ 10 → num t i r ≤ p → 13841287400 + 2 * d ≤ k → spec_l07Next.l0 k p sm r i b.lv b.top b.dn bf.lv bf.top bf.dn = some (enc (PM.nbr p b (num t i r))) := by
 have hpl := hp.le
 intro d
 induction d with
 | zero =>
  intro i r k h0 h1 h2 h2' h3 hk
  have := num_ge t i r; omega
 | succ d ih =>
  intro i r k h0 h1 h2 h2' h3 hk
  obtain ⟨k, rfl⟩ : ∃ m, k = m + 1 := ⟨k - 1, by omega⟩
  simp only [spec_l07Next.l0]
  rw [if_pos (by omega), specDown_eq hp hb (by omega) k (by omega)]
  simp only [Option.bind_some]
  have hY : PM.about p (b.lv + 1) (PM.mark p ⟨b.lv, b.top, b.dn⟩ + i * pw p (b.lv + 6)) = PM.nbr p b (i + 1) := by
   unfold PM.nbr; rw [if_neg (by omega), show i + 1 - 1 = i by omega]
  rw [hY]
  obtain ⟨k, rfl⟩ : ∃ m, k = m + 1 := ⟨k - 1, by omega⟩
  have take : (sm = true → PM.nbr p b (i + 1) ≠ some bf) → spec_l07Next.j3 (k + 1) p sm r i (enc (PM.nbr p b (i + 1))).2.2.2 false b.lv b.top b.dn bf.lv bf.top bf.dn (enc (PM.nbr p b (i + 1))).1 (enc (PM.nbr p b (i + 1))).2.1 (enc (PM.nbr p b (i + 1))).2.2.1 = some (enc (PM.nbr p b (num t i r))) := by
   intro hy
   obtain ⟨n1, n2⟩ := num_take h hp hb i r (by omega) (by omega) hy h2
   simp only [spec_l07Next.j3]
   rw [if_neg (by simp)]
   by_cases z : r = 0
   ·
    rw [if_pos z, z, n1]
   ·
    rw [if_neg z, w64 (n := r - 1) (by omega) (by omega), w64 (n := i + 1) (by omega) (by omega), ih (i + 1) (r - 1) k (by omega) (by omega) (by omega) (by omega) (by omega) (by omega), n2]
  by_cases hs : sm = true
  ·
   rw [if_pos hs]
   cases hy : PM.nbr p b (i + 1) with
   | none =>
    have tk := take (by rw [hy]; simp)
    rw [hy] at tk
    rw [if_neg (by simp [enc])]
    exact tk
   | some y =>
    rw [if_pos (by simp [enc])]
    by_cases q : y = bf
    ·
     have : ((enc (some y)).1 == bf.lv && ((enc (some y)).2.1 == bf.top && ((enc (some y)).2.2.1 == bf.dn))) = true := by
      show (y.lv == bf.lv && (y.top == bf.top && (y.dn == bf.dn))) = true
      rw [beqB, decide_eq_true q]
     rw [this]
     have hn := num_skip h hp hb i r (by omega) (by omega) hs (by rw [hy, q]) (by omega)
     simp only [spec_l07Next.j3]
     rw [if_pos trivial, w64 (n := i + 1) (by omega) (by omega), ih (i + 1) r k (by omega) (by omega) (by omega) (by omega) (by omega) (by omega), hn]
    ·
     have : ((enc (some y)).1 == bf.lv && ((enc (some y)).2.1 == bf.top && ((enc (some y)).2.2.1 == bf.dn))) = false := by
      show (y.lv == bf.lv && (y.top == bf.top && (y.dn == bf.dn))) = false
      rw [beqB, decide_eq_false q]
     rw [this]
     have tk := take (by rw [hy]; intro _ w; exact q (Option.some.inj w))
     rw [hy] at tk
     exact tk
  ·
   rw [if_neg hs]
   exact take (fun w => absurd w hs)
theorem l07Next_eq {p r : Int} {b bf : PM.Ball} {sm : Bool} {t : Option Int} (h : Bef p b bf sm t) (hp : Pr p) (hb : PM.Ok p b) (h0 : 0 ≤ r) (h0' : r ≤ 10) (h1 : num t (-1) r ≤ p) : ∀ k, 13841287500 ≤ k → spec_l07Next.f k p b.lv b.top b.dn bf.lv bf.top bf.dn sm r = some (enc (PM.nbr p b (num t (-1) r))) := by
 intro k hk
 have hpl := hp.le
 have hpp := hp.pos
 unfold spec_l07Next.f
 rw [specUp_eq hp hb k (by omega)]
 simp only [Option.bind_some]
 have hY : PM.about p (b.lv - 1) (PM.mark p ⟨b.lv, b.top, b.dn⟩) = PM.nbr p b (-1 + 1) := by
  unfold PM.nbr; rw [if_pos (by omega)]
 rw [hY]
 obtain ⟨k, rfl⟩ : ∃ m, k = m + 1 := ⟨k - 1, by omega⟩
 obtain ⟨k, rfl⟩ : ∃ m, k = m + 1 := ⟨k - 1, by omega⟩
 have take : (sm = true → PM.nbr p b (-1 + 1) ≠ some bf) → spec_l07Next.j0 (k + 1 + 1) p sm r (enc (PM.nbr p b (-1 + 1))).2.2.2 true b.lv b.top b.dn bf.lv bf.top bf.dn (enc (PM.nbr p b (-1 + 1))).1 (enc (PM.nbr p b (-1 + 1))).2.1 (enc (PM.nbr p b (-1 + 1))).2.2.1 = some (enc (PM.nbr p b (num t (-1) r))) := by
  intro hy
  obtain ⟨n1, n2⟩ := num_take h hp hb (-1) r (by omega) (by omega) hy h0
  simp only [spec_l07Next.j0]
  rw [if_pos trivial]
  by_cases z : r = 0
  ·
   rw [if_pos z, z, n1]
  ·
   simp only [spec_l07Next.j1]
   rw [if_neg z, w64 (n := r - 1) (by omega) (by omega)]
   have := next_go h hp hb p.toNat 0 (r - 1) k (by omega) (by omega) (by omega) (by omega) (by rw [show (0 : Int) = -1 + 1 by omega]; omega) (by omega)
   rw [this, ← n2]; rfl
 by_cases hs : sm = true
 ·
  rw [if_pos hs]
  cases hy : PM.nbr p b (-1 + 1) with
  | none =>
   have tk := take (by rw [hy]; simp)
   rw [hy] at tk
   rw [if_neg (by simp [enc])]
   exact tk
  | some y =>
   rw [if_pos (by simp [enc])]
   by_cases q : y = bf
   ·
    have : (!((enc (some y)).1 == bf.lv) || (!((enc (some y)).2.1 == bf.top) || (!((enc (some y)).2.2.1 == bf.dn)))) = false := by
     show (!(y.lv == bf.lv) || (!(y.top == bf.top) || (!(y.dn == bf.dn)))) = false
     rw [bneB, decide_eq_true q]; rfl
    rw [this]
    have hn := num_skip h hp hb (-1) r (by omega) (by omega) hs (by rw [hy, q]) (by omega)
    simp only [spec_l07Next.j0, spec_l07Next.j1]
    rw [if_neg (by simp)]
    have := next_go h hp hb p.toNat 0 r k (by omega) (by omega) (by omega) (by omega) (by rw [show (0 : Int) = -1 + 1 by omega]; omega) (by omega)
    rw [this, ← hn]; rfl
   ·
    have : (!((enc (some y)).1 == bf.lv) || (!((enc (some y)).2.1 == bf.top) || (!((enc (some y)).2.2.1 == bf.dn)))) = true := by
     show (!(y.lv == bf.lv) || (!(y.top == bf.top) || (!(y.dn == bf.dn)))) = true
     rw [bneB, decide_eq_false q]; rfl
    rw [this]
    have tk := take (by rw [hy]; intro _ w; exact q (Option.some.inj w))
    rw [hy] at tk
    exact tk
 ·
  rw [if_neg hs]
  exact take (fun w => absurd w hs)

theorem l01Code_one (p : Int) (b : PM.Ball) : ∃ K, ∀ k, K ≤ k → spec_l01Code.f k p [enS b] = some (if Pr p ∧ PM.Ok p b then 0 else 1) := by
 obtain ⟨K, h⟩ := l01Code_eq p [enS b] (by simp)
 refine ⟨K, fun k hk => ?_⟩
 rw [h k hk]
 have e : [enS b].all (bOk p) = true ↔ PM.Ok p b := by
  simp only [List.all_cons, List.all_nil, Bool.and_true, bOk, decide_eq_true_iff]; exact Iff.rfl
 by_cases q : Pr p ∧ PM.Ok p b
 ·
  rw [if_pos q, if_pos ⟨q.1, e.2 q.2⟩]
 ·
  rw [if_neg q, if_neg (fun z => q ⟨z.1, e.1 z.2⟩)]
def par (p i : Int) : Int := if i ≤ p + 1 then 0 else (i - p - 2) / p + 1
/-- the number of a place among the children of its parent -/
def stp (p i : Int) : Int := i - fc p (par p i)
theorem par_bd {p i : Int} (hp : Pr p) (h0 : 0 < i) : 0 ≤ par p i ∧ par p i < i ∧ 0 ≤ stp p i ∧ stp p i ≤ p ∧ (par p i ≠ 0 → stp p i ≤ p - 1) := by
 have hpp := hp.pos
 unfold stp par fc
 by_cases h : i ≤ p + 1
 ·
  simp only [if_pos h]; simp; omega
 ·
  simp only [if_neg h]
  have q0 : 0 ≤ (i - p - 2) / p := Int.ediv_nonneg (by omega) (by omega)
  have q1 := Int.mul_ediv_add_emod (i - p - 2) p
  have q2 := Int.emod_nonneg (i - p - 2) (b := p) (by omega)
  have q3 := Int.emod_lt_of_pos (i - p - 2) (b := p) (by omega)
  generalize (i - p - 2) / p = q at *
  have q4 : q * 2 ≤ q * p := Int.mul_le_mul_of_nonneg_left (by omega) q0
  rw [Int.mul_comm] at q1
  rw [if_neg (by omega), show q + 1 - 1 = q by omega]
  omega
def dF (p : Int) : Nat → Int → Int
 | 0, _ => 0
 | f + 1, i => if 0 < i then dF p f (par p i) + 1 else 0
theorem spec_depth {p : Int} (hp : Pr p) : ∀ (f : Nat) (i n : Int) (k : Nat), 0 ≤ i → i < f → f ≤ 1000 → 0 ≤ n → n + f ≤ 5000 → f < k → spec_l07Depth.l0 k p i n = some (n + dF p f i) := by
 intro f
 induction f with
 | zero => intro i n k h0 h1; omega
 | succ f ih =>
  intro i n k h0 h1 h2 h3 h4 hk
  obtain ⟨k, rfl⟩ : ∃ m, k = m + 1 := ⟨k - 1, by omega⟩
  simp only [spec_l07Depth.l0, dF]
  by_cases z : i > 0
  ·
   obtain ⟨b1, b2, _⟩ := par_bd hp z
   rw [if_pos z, if_pos (show 0 < i from z), parent_eq p i hp (by omega) (by omega), w64 (n := n + 1) (by omega) (by omega)]
   simp only [Option.bind_some]
   rw [show (if i ≤ p + 1 then 0 else (i - p - 2) / p + 1) = par p i from rfl, ih (par p i) (n + 1) k b1 (by omega) (by omega) (by omega) (by omega) (by omega)]
   congr 1; omega
  ·
   rw [if_neg z, if_neg (show ¬ 0 < i from z)]; congr 1; omega
theorem impl_depth (p : Int) : ∀ (k : Nat) (i n : Int), impl_depthOf.l0 k p i n = spec_l07Depth.l0 k p i n
 | 0, _, _ => rfl
 | k + 1, i, n => by
  simp only [impl_depthOf.l0, spec_l07Depth.l0, parentPlace_eq]
  by_cases z : i > 0
  ·
   rw [if_pos z, if_pos z]; congr 1; funext t; exact impl_depth p k _ _
  ·
   rw [if_neg z, if_neg z]
/-- one step of the way down to a place -/
def stepS (p s : Int) (st : PM.Ball × Option PM.Ball) : Option (PM.Ball × Option PM.Ball) := (PM.nbr p st.1 (num (st.2.map (PM.tow p st.1)) (-1) s)).map fun y => (y, some st.1)
/-- the ball of a place, and the one before -/
def ST (p : Int) (b : PM.Ball) : Nat → Int → Option (PM.Ball × Option PM.Ball)
 | 0, _ => none
 | f + 1, i => if 0 < i then (ST p b f (par p i)).bind (stepS p (stp p i)) else some (b, none)
def sF (p : Int) : Nat → Int → List Int
 | 0, _ => []
 | f + 1, i => if 0 < i then stp p i :: sF p f (par p i) else []
def run (p : Int) : List Int → PM.Ball × Option PM.Ball → Option (PM.Ball × Option PM.Ball)
 | [], st => some st
 | s :: l, st => (stepS p s st).bind (run p l)
theorem run_append (p : Int) : ∀ (l m : List Int) (st : PM.Ball × Option PM.Ball), run p (l ++ m) st = (run p l st).bind (run p m)
 | [], _, _ => rfl
 | s :: l, m, st => by
  simp only [List.cons_append, run]
  cases stepS p s st with
  | none => rfl
  | some x => simp only [Option.bind_some]; exact run_append p l m x
theorem run_ST {p : Int} (hp : Pr p) (b : PM.Ball) : ∀ (f : Nat) (i : Int), 0 ≤ i → i < f → run p (sF p f i).reverse (b, none) = ST p b f i := by
 intro f
 induction f with
 | zero => intro i h0 h1; omega
 | succ f ih =>
  intro i h0 h1
  unfold sF ST
  by_cases z : 0 < i
  ·
   obtain ⟨b1, b2, _⟩ := par_bd hp z
   rw [if_pos z, if_pos z, List.reverse_cons, run_append, ih (par p i) b1 (by omega)]
   congr 1; funext st
   simp only [run]
   cases stepS p (stp p i) st <;> rfl
  ·
   rw [if_neg z, if_neg z]; rfl
/-- what holds of a ball and the one before -/
def Fine (p : Int) (st : PM.Ball × Option PM.Ball) : Prop := PM.Ok p st.1 ∧ ∀ y, st.2 = some y → PM.Ok p y ∧ PM.dist p st.1 y = 1
theorem stepS_fine {p s : Int} {st st' : PM.Ball × Option PM.Ball} (hp : Pr p) (h : Fine p st) (e : stepS p s st = some st') : Fine p st' ∧ st'.2 = some st.1 := by
 unfold stepS at e
 cases hy : PM.nbr p st.1 (num (st.2.map (PM.tow p st.1)) (-1) s) with
 | none => rw [hy] at e; cases e
 | some y =>
  rw [hy] at e
  obtain rfl := Option.some.inj e
  have oy := PM.nbr_ok hp hy
  refine ⟨⟨oy, fun z hz => ?_⟩, rfl⟩
  obtain rfl := Option.some.inj hz
  exact ⟨h.1, by rw [PM.dist_comm]; exact PM.dist_one hp h.1 hy oy⟩
theorem ST_fine {p : Int} {b : PM.Ball} (hp : Pr p) (hb : PM.Ok p b) : ∀ (f : Nat) (i : Int) (st : PM.Ball × Option PM.Ball), 0 ≤ i → i < f → ST p b f i = some st → Fine p st ∧ (st.2 = none ↔ i = 0) ∧ (i = 0 → st.1 = b) := by
 intro f
 induction f with
 | zero => intro i st h0 h1; omega
 | succ f ih =>
  intro i st h0 h1 h
  unfold ST at h
  by_cases z : 0 < i
  ·
   obtain ⟨b1, b2, _⟩ := par_bd hp z
   rw [if_pos z] at h
   obtain ⟨st0, e1, e2⟩ := Option.bind_eq_some_iff.mp h
   obtain ⟨f1, f2, _⟩ := ih (par p i) st0 b1 (by omega) e1
   obtain ⟨g1, g2⟩ := stepS_fine hp f1 e2
   refine ⟨g1, ?_, fun w => by omega⟩
   rw [g2]; constructor
   ·
    intro w; cases w
   ·
    intro w; omega
  ·
   rw [if_neg z] at h
   obtain rfl := Option.some.inj h
   exact ⟨⟨hb, fun y hy => by cases hy⟩, ⟨fun _ => by omega, fun _ => rfl⟩, fun _ => rfl⟩
def encS : Option (PM.Ball × Option PM.Ball) → Int × Int × Int × Bool
 | none => (0, 0, 0, false)
 | some st => (st.1.lv, st.1.top, st.1.dn, true)
theorem num_le {p s : Int} {t : Option Int} (h : s ≤ p) (h1 : s = p → t = none) : num t (-1) s ≤ p := by
 unfold num
 cases t with
 | none => simp only; omega
 | some t =>
  have : s ≠ p := fun w => by cases h1 w
  simp only; split <;> omega
theorem bef_of {p : Int} {st : PM.Ball × Option PM.Ball} (h : Fine p st) (bf : PM.Ball) (sm : Bool) (hs : (sm = false ∧ st.2 = none) ∨ (sm = true ∧ st.2 = some bf)) : Bef p st.1 bf sm (st.2.map (PM.tow p st.1)) := by
 rcases hs with ⟨h1, h2⟩ | ⟨h1, h2⟩
 ·
  rw [h2]; exact Or.inl ⟨h1, rfl⟩
 ·
  obtain ⟨o, d⟩ := h.2 bf h2
  rw [h2]; exact Or.inr ⟨h1, o, d, rfl⟩
theorem spec_run {p : Int} (hp : Pr p) (L : List Int) (hL : L.length ≤ 1000) : ∀ (m : Nat) (st : PM.Ball × Option PM.Ball) (bf : PM.Ball) (sm : Bool) (k : Nat), m ≤ L.length → Fine p st → ((sm = false ∧ st.2 = none) ∨ (sm = true ∧ st.2 = some bf)) → (∀ (j : Nat) (s : Int), j < m → L[j]? = some s → 0 ≤ s ∧ s ≤ p ∧ (s = p → j + 1 = m ∧ st.2 = none)) → 13841287600 + m ≤ k → spec_l07Ball.l1 k p L sm ((m : Int) - 1) st.1.lv st.1.top st.1.dn bf.lv bf.top bf.dn = some (encS (run p (L.take m).reverse st)) := by
 have hpl := hp.le
 intro m
 induction m with
 | zero =>
  intro st bf sm k h0 hf hs hj hk
  obtain ⟨k, rfl⟩ : ∃ m, k = m + 1 := ⟨k - 1, by omega⟩
  simp only [spec_l07Ball.l1]
  rw [if_neg (by omega)]
  rfl
 | succ m ih =>
  intro st bf sm k h0 hf hs hj hk
  obtain ⟨k, rfl⟩ : ∃ m, k = m + 1 := ⟨k - 1, by omega⟩
  have hlt : m < L.length := by omega
  have hg : L[m]? = some (L[m]'hlt) := List.getElem?_eq_getElem hlt
  obtain ⟨s0, s1, s2⟩ := hj m _ (by omega) hg
  have hrd : rd L (((m + 1 : Nat) : Int) - 1) = L[m]'hlt := by
   rw [show ((m + 1 : Nat) : Int) - 1 = (m : Int) by omega]
   simp [rd, hg]
  have htk : (L.take (m + 1)).reverse = L[m]'hlt :: (L.take m).reverse := by
   rw [List.take_add_one, hg]; simp
  simp only [spec_l07Ball.l1]
  rw [if_pos (by omega), if_pos (by omega), if_pos (by omega), hrd, htk]
  generalize L[m]'hlt = s at *
  rw [l07Next_eq (bef_of hf bf sm hs) hp hf.1 s0 (by omega) (num_le s1 (fun w => by rw [(s2 w).2]; rfl)) k (by omega), w64 (n := ((m + 1 : Nat) : Int) - 1 - 1) (by omega) (by omega)]
  simp only [Option.bind_some, run]
  cases hy : PM.nbr p st.1 (num (st.2.map (PM.tow p st.1)) (-1) s) with
  | none =>
   rw [if_neg (by simp [enc]), show stepS p s st = none by unfold stepS; rw [hy]; rfl]
   rfl
  | some y =>
   have e : stepS p s st = some (y, some st.1) := by unfold stepS; rw [hy]; rfl
   obtain ⟨f1, f2⟩ := stepS_fine hp hf e
   rw [if_pos (by simp [enc]), e]
   simp only [Option.bind_some]
   rw [show ((m + 1 : Nat) : Int) - 1 - 1 = (m : Int) - 1 by omega]
   exact ih (y, some st.1) st.1 true k (by omega) f1 (Or.inr ⟨rfl, rfl⟩) (fun j s' hj1 hj2 => by
    obtain ⟨a1, a2, a3⟩ := hj j s' (by omega) hj2
    exact ⟨a1, a2, fun w => by have := (a3 w).1; omega⟩) (by omega)
theorem sF_ok {p : Int} (hp : Pr p) : ∀ (f : Nat) (i : Int), 0 ≤ i → i < f → (sF p f i).length ≤ f ∧ ∀ (j : Nat) (s : Int), (sF p f i)[j]? = some s → 0 ≤ s ∧ s ≤ p ∧ (s = p → j + 1 = (sF p f i).length) := by
 intro f
 induction f with
 | zero => intro i h0 h1; omega
 | succ f ih =>
  intro i h0 h1
  unfold sF
  by_cases z : 0 < i
  ·
   obtain ⟨b1, b2, b3, b4, b5⟩ := par_bd hp z
   obtain ⟨l1, l2⟩ := ih (par p i) b1 (by omega)
   simp only [if_pos z]
   refine ⟨by simp; omega, fun j s h => ?_⟩
   cases j with
   | zero =>
    obtain rfl := Option.some.inj h
    refine ⟨b3, b4, fun w => ?_⟩
    have hz : par p i = 0 := Decidable.byContradiction fun q => by have := b5 q; omega
    rw [hz]
    cases f with
    | zero => simp [sF]
    | succ f => simp [sF]
   | succ j =>
    obtain ⟨a1, a2, a3⟩ := l2 j s h
    exact ⟨a1, a2, fun w => by have := a3 w; simp; omega⟩
  ·
   simp only [if_neg z]
   exact ⟨by simp, fun j s h => by simp at h⟩
theorem spec_up {p : Int} {b : PM.Ball} (hp : Pr p) : ∀ (f : Nat) (i : Int) (acc : List Int) (k : Nat), 0 ≤ i → i < f → f ≤ 600 → acc.length + f ≤ 1000 → f < k → ∃ j : Nat, k ≤ j + f + 1 ∧ spec_l07Ball.l0 k p acc i b.lv b.top b.dn = spec_l07Ball.l1 j p (acc ++ sF p f i) false (((acc ++ sF p f i).length : Int) - 1) b.lv b.top b.dn 0 0 0 := by
 intro f
 induction f with
 | zero => intro i acc k h0 h1; omega
 | succ f ih =>
  intro i acc k h0 h1 h2 h3 hk
  obtain ⟨k, rfl⟩ : ∃ m, k = m + 1 := ⟨k - 1, by omega⟩
  simp only [spec_l07Ball.l0, sF]
  by_cases z : i > 0
  ·
   obtain ⟨b1, b2, b3, b4, b5⟩ := par_bd hp z
   have z' : 0 < i := z
   simp only [if_pos z, if_pos z']
   rw [parent_eq p i hp (by omega) (by omega)]
   simp only [Option.bind_some]
   rw [show (if i ≤ p + 1 then 0 else (i - p - 2) / p + 1) = par p i from rfl, child_eq p (par p i) hp b1 (by omega)]
   simp only [Option.bind_some]
   rw [if_pos (by omega), show i - fc p (par p i) = stp p i from rfl, w64 (n := stp p i) (by omega) (by have := hp.le; omega)]
   obtain ⟨j, hj, e⟩ := ih (par p i) (acc ++ [stp p i]) k b1 (by omega) (by omega) (by simp; omega) (by omega)
   refine ⟨j, by omega, ?_⟩
   rw [e, List.append_assoc]; rfl
  ·
   have z' : ¬ 0 < i := z
   simp only [if_neg z, if_neg z']
   refine ⟨k, by omega, ?_⟩
   rw [w64 (by omega) (by omega), List.append_nil]
theorem l07Ball_eq {p i : Int} {b : PM.Ball} (hp : Pr p) (hb : PM.Ok p b) (h0 : 0 ≤ i) (h1 : i ≤ 500) : ∀ k, 13841290000 ≤ k → spec_l07Ball.f k p b.lv b.top b.dn i = some (encS (ST p b 501 i)) := by
 intro k hk
 unfold spec_l07Ball.f
 obtain ⟨j, hj, e⟩ := spec_up (b := b) hp 501 i [] k h0 (by omega) (by omega) (by simp) (by omega)
 obtain ⟨l1, l2⟩ := sF_ok hp 501 i h0 (by omega)
 rw [e, List.nil_append]
 have := spec_run hp (sF p 501 i) (by omega) (sF p 501 i).length (b, none) ⟨0, 0, 0⟩ false j (Nat.le_refl _) ⟨hb, fun y hy => by cases hy⟩ (Or.inl ⟨rfl, rfl⟩) (fun q s _ hq => by
  obtain ⟨a1, a2, a3⟩ := l2 q s hq
  exact ⟨a1, a2, fun w => ⟨a3 w, rfl⟩⟩) (by omega)
 rw [List.take_length, run_ST hp b 501 i h0 (by omega)] at this
 exact this
theorem impl_bop {p : Int} {b : PM.Ball} (hp : Pr p) (hb : PM.Ok p b) : ∀ (f : Nat) (i : Int) (k : Nat), 0 ≤ i → i < f → i ≤ 500 → 100 + f ≤ k → (ST p b f i = none → ∃ a1 a2 a3 a4 a5 a6, impl_ballOfPlace.f k p b.lv b.top b.dn i = some (a1, a2, a3, a4, a5, a6, false)) ∧ ∀ st, ST p b f i = some st → impl_ballOfPlace.f k p b.lv b.top b.dn i = some (st.1.lv, st.1.top, st.1.dn, (st.2.getD b).lv, (st.2.getD b).top, (st.2.getD b).dn, true) := by
 have hpl := hp.le
 have hpp := hp.pos
 intro f
 induction f with
 | zero => intro i k h0 h1; omega
 | succ f ih =>
  intro i k h0 h1 h2 hk
  obtain ⟨k, rfl⟩ : ∃ m, k = m + 1 := ⟨k - 1, by omega⟩
  simp only [impl_ballOfPlace.f, ST]
  by_cases z : 0 < i
  ·
   obtain ⟨b1, b2, b3, b4, b5⟩ := par_bd hp z
   obtain ⟨i1, i2⟩ := ih (par p i) k b1 (by omega) (by omega) (by omega)
   simp only [if_pos z, if_neg (show ¬ i = 0 by omega)]
   rw [parentPlace_eq, parent_eq p i hp (by omega) (by omega)]
   simp only [Option.bind_some]
   rw [show (if i ≤ p + 1 then 0 else (i - p - 2) / p + 1) = par p i from rfl]
   cases hst : ST p b f (par p i) with
   | none =>
    obtain ⟨a1, a2, a3, a4, a5, a6, e⟩ := i1 hst
    rw [e]
    simp only [Option.bind_some, Option.bind_none]
    refine ⟨fun _ => ⟨0, 0, 0, 0, 0, 0, by simp⟩, fun st h => by cases h⟩
   | some st0 =>
    obtain ⟨g1, g2, g3⟩ := ST_fine hp hb f (par p i) st0 b1 (by omega) hst
    rw [i2 st0 hst]
    simp only [Option.bind_some]
    have hfc : impl_firstChild.f p (par p i) = some (fc p (par p i)) := firstChild_eq p (par p i) hp b1 (by omega)
    have hs : wrap64 (i - fc p (par p i)) = stp p i := by
     rw [show i - fc p (par p i) = stp p i from rfl, w64 (by omega) (by omega)]
    have hnn : ∀ N : Int, 0 ≤ N → N ≤ 8 → N = num (st0.2.map (PM.tow p st0.1)) (-1) (stp p i) → ((stepS p (stp p i) st0 = none → ∃ a1 a2 a3 a4 a5 a6, ((impl_neighbour.f k p st0.1.lv st0.1.top st0.1.dn N).bind fun bt => some (bt.1, bt.2.1, bt.2.2.1, st0.1.lv, st0.1.top, st0.1.dn, bt.2.2.2)) = some (a1, a2, a3, a4, a5, a6, false)) ∧ ∀ st, stepS p (stp p i) st0 = some st → ((impl_neighbour.f k p st0.1.lv st0.1.top st0.1.dn N).bind fun bt => some (bt.1, bt.2.1, bt.2.2.1, st0.1.lv, st0.1.top, st0.1.dn, bt.2.2.2)) = some (st.1.lv, st.1.top, st.1.dn, (st.2.getD b).lv, (st.2.getD b).top, (st.2.getD b).dn, true)) := by
     intro N n0 n1 hN
     rw [neighbour_eq hp g1.1 ⟨n0, n1⟩ k (by omega), nb_nbr]
     unfold stepS
     rw [← hN]
     simp only [Option.bind_some]
     show (Option.map _ (PM.nbr p st0.1 N) = none → ∃ a1 a2 a3 a4 a5 a6, some ((enc (PM.nbr p st0.1 N)).1, (enc (PM.nbr p st0.1 N)).2.1, (enc (PM.nbr p st0.1 N)).2.2.1, st0.1.lv, st0.1.top, st0.1.dn, (enc (PM.nbr p st0.1 N)).2.2.2) = _) ∧ ∀ st, _ → some ((enc (PM.nbr p st0.1 N)).1, (enc (PM.nbr p st0.1 N)).2.1, (enc (PM.nbr p st0.1 N)).2.2.1, st0.1.lv, st0.1.top, st0.1.dn, (enc (PM.nbr p st0.1 N)).2.2.2) = _
     cases PM.nbr p st0.1 N with
     | none => exact ⟨fun _ => ⟨_, _, _, _, _, _, rfl⟩, fun st h => by cases h⟩
     | some y => exact ⟨fun h => (by cases h), fun st h => by obtain rfl := Option.some.inj h; rfl⟩
    simp only [if_true, hfc, Option.bind_some, hs]
    by_cases q : par p i > 0
    ·
     rw [if_pos q]
     obtain ⟨y, hy⟩ : ∃ y, st0.2 = some y := by
      cases e : st0.2 with
      | none => have := g2.1 e; omega
      | some y => exact ⟨y, rfl⟩
     obtain ⟨oy, dy⟩ := g1.2 y hy
     have tb := PM.tow_bd hp st0.1 y
     have b6 := b5 (by omega)
     rw [hy, show (some y).getD b = y from rfl, toward_eq hp g1.1 oy dy k (by omega)]
     simp only [Option.bind_some]
     rw [hy] at hnn
     by_cases w : stp p i ≥ PM.tow p st0.1 y
     ·
      rw [if_pos w, w64 (n := stp p i + 1) (by omega) (by omega)]
      exact hnn (stp p i + 1) (by omega) (by omega) (by simp only [Option.map_some, num]; rw [if_pos (by omega)]; omega)
     ·
      rw [if_neg w]
      exact hnn (stp p i) (by omega) (by omega) (by simp only [Option.map_some, num]; rw [if_neg (by omega)]; omega)
    ·
     rw [if_neg q]
     have hy : st0.2 = none := g2.2 (by omega)
     rw [hy] at hnn
     exact hnn (stp p i) (by omega) (by omega) (by simp only [Option.map_none, num]; omega)
  ·
   simp only [if_neg z, if_pos (show i = 0 by omega)]
   refine ⟨fun h => (by cases h), fun st h => ?_⟩
   obtain rfl := Option.some.inj h
   rfl
def fin : Option (PM.Ball × Option PM.Ball) → Int × Int × Int × Int
 | none => (0, 0, 0, 3)
 | some st => (st.1.lv, st.1.top, st.1.dn, 0)
def res (p : Int) (b : PM.Ball) (i : Int) : Int × Int × Int × Int := if Pr p ∧ PM.Ok p b then (if 0 ≤ i ∧ i ≤ 500 then (if dF p 501 i > 4 then (0, 0, 0, 2) else fin (ST p b 501 i)) else (0, 0, 0, 2)) else (0, 0, 0, 1)
theorem spec_res (p : Int) (b : PM.Ball) (i : Int) : ∃ K, ∀ k, K ≤ k → spec_BallOfPlace.f k p b.lv b.top b.dn i = some (res p b i) := by
 obtain ⟨K, h⟩ := l01Code_one p b
 refine ⟨K + 13841290001, fun k hk => ?_⟩
 obtain ⟨k, rfl⟩ : ∃ j, k = j + 1 := ⟨k - 1, by omega⟩
 unfold spec_BallOfPlace.f res
 show ((spec_l01Code.f (k + 1) p [enS b]).bind _) = _
 rw [h _ (by omega)]
 simp only [Option.bind_some]
 by_cases q : Pr p ∧ PM.Ok p b
 ·
  rw [if_pos q, if_pos q, if_pos rfl, in_eq]
  simp only [Option.bind_some]
  by_cases r : 0 ≤ i ∧ i ≤ 500
  ·
   rw [decide_eq_true r, if_pos rfl, if_pos r]
   unfold spec_l07Depth.f
   rw [spec_depth q.1 501 i 0 (k + 1) (by omega) (by omega) (by omega) (by omega) (by omega) (by omega), Int.zero_add]
   simp only [Option.bind_some, spec_BallOfPlace.j0]
   by_cases g : dF p 501 i > 4
   ·
    rw [decide_eq_true g, if_pos rfl, if_pos g]
   ·
    rw [decide_eq_false g, if_neg (by simp), if_neg g, l07Ball_eq q.1 q.2 r.1 r.2 k (by omega)]
    simp only [Option.bind_some]
    cases ST p b 501 i <;> rfl
  ·
   rw [decide_eq_false r, if_neg (by simp), if_neg r]
   simp [spec_BallOfPlace.j0]
 ·
  rw [if_neg q, if_neg q, if_neg (by omega)]
theorem impl_res (p : Int) (b : PM.Ball) (i : Int) : ∃ K, ∀ k, K ≤ k → impl_BallOfPlace.f k p b.lv b.top b.dn i = some (res p b i) := by
 refine ⟨2000, fun k hk => ?_⟩
 obtain ⟨k, rfl⟩ : ∃ j, k = j + 1 := ⟨k - 1, by omega⟩
 unfold impl_BallOfPlace.f res
 rw [IsBall_eq p b.lv b.top b.dn _ (by omega)]
 simp only [Option.bind_some]
 by_cases q : Pr p ∧ PM.Ok p b
 ·
  rw [decide_eq_true (show Pr p ∧ PM.Ok p ⟨b.lv, b.top, b.dn⟩ from q), if_pos rfl, if_pos q]
  by_cases r : 0 ≤ i ∧ i ≤ 500
  ·
   rw [if_neg (by omega), if_neg (by omega), if_pos r]
   unfold impl_depthOf.f
   rw [impl_depth, spec_depth q.1 501 i 0 (k + 1) (by omega) (by omega) (by omega) (by omega) (by omega) (by omega), Int.zero_add]
   simp only [Option.bind_some, impl_BallOfPlace.j0]
   by_cases g : dF p 501 i > 4
   ·
    rw [decide_eq_true g, if_pos rfl, if_pos g]
   ·
    rw [decide_eq_false g, if_neg (by simp), if_neg g]
    obtain ⟨i1, i2⟩ := impl_bop q.1 q.2 501 i k r.1 (by omega) r.2 (by omega)
    cases hst : ST p b 501 i with
    | none =>
     obtain ⟨a1, a2, a3, a4, a5, a6, e⟩ := i1 hst
     rw [e]; simp [impl_fitted.f, fin]
    | some st =>
     rw [i2 st hst]; simp [impl_fitted.f, fin]
  ·
   rw [if_neg r]
   by_cases s : i < 0
   ·
    rw [if_pos s]; simp [impl_BallOfPlace.j0]
   ·
    rw [if_neg s, if_pos (by omega)]; simp [impl_BallOfPlace.j0]
 ·
  rw [decide_eq_false (show ¬ (Pr p ∧ PM.Ok p ⟨b.lv, b.top, b.dn⟩) from q), if_neg (by simp), if_neg q]
theorem FnExactBallOfPlace (p lv top dn i : Int) (_ : (Lit.int .i64 p).wf = true) (_ : (Lit.int .i64 lv).wf = true) (_ : (Lit.int .i64 top).wf = true) (_ : (Lit.int .i64 dn).wf = true) (_ : (Lit.int .i64 i).wf = true) : ∃ k, laws_FnExactBallOfPlace.f k p lv top dn i = some true := by
 obtain ⟨K1, h1⟩ := spec_res p ⟨lv, top, dn⟩ i
 obtain ⟨K2, h2⟩ := impl_res p ⟨lv, top, dn⟩ i
 refine ⟨K1 + K2, ?_⟩
 unfold laws_FnExactBallOfPlace.f laws_toBall.f
 simp only [Option.bind_some]
 rw [show spec_BallOfPlace.f _ p lv top dn i = _ from h1 (K1 + K2) (by omega), show impl_BallOfPlace.f _ p lv top dn i = _ from h2 (K1 + K2) (by omega)]
 simp [laws_eqBall.f]

end Go.Proofs.Ytfkglijnbgijbaa.Pure
