-- turned for this claim out of the kit's print: the same functions, packed anew
import Derived.Test.YtnejmbhpngdiiaaQx
import Derived.Test.YtnejmbhpngdiiaaQimplareEnds
import Derived.Test.YtnejmbhpngdiiaaQspecl05Code
namespace Go.Proofs.Ytnejmbhpngdiiaa.PAll
open Go.RowKit Go.Proofs.YtnejmbhpngdiiaaW.PrintWords Go.Proofs.YtnejmbhpngdiiaaW.PrintLast Go.Proofs.YtnejmbhpngdiiaaW.PrintMore
attribute [local go_sem] Go.Proofs.Ytnejmbhpngdiiaa.Aux.setCell_drewN Go.Proofs.Ytnejmbhpngdiiaa.Aux.isSome_setCell Go.Proofs.Ytnejmbhpngdiiaa.Aux.max_eight max2_int min2_int max_two min_two max_three min_three max_four min_four   -- for this text's walks alone
set_option linter.unusedVariables false
set_option linter.unusedSimpArgs false
/-! ### spec_CrossRatio: function 4 -/
def spec_CrossRatio.f (k : Nat) (a0_0 : Int) (a0_1 : Int) (a1_0 : Int) (a1_1 : Int) (a2_0 : Int) (a2_1 : Int) (a3_0 : Int) (a3_1 : Int) : Option (Int × Int × Int) := (spec_l05Code.f k 2 ([] : List (S47)) (([(⟨a0_0, a0_1⟩ : S24), (⟨a1_0, a1_1⟩ : S24), (⟨a2_0, a2_1⟩ : S24), (⟨a3_0, a3_1⟩ : S24)] : List (S24)))).bind fun t134 => (if t134 = 0 then ((spec_l05Cross.f a0_0 a0_1 a2_0 a2_1).bind fun t135 => ((spec_l05Cross.f a1_0 a1_1 a3_0 a3_1).bind fun t136 => ((spec_l05Cross.f a0_0 a0_1 a3_0 a3_1).bind fun t137 => ((spec_l05Cross.f a1_0 a1_1 a2_0 a2_1).bind fun t138 => ((spec_l01Gcd.f k t135 t137).bind fun t139 => (if t139 = 0 then (none) else ((spec_l01Gcd.f k (wrap64 (Int.tdiv t135 t139)) t138).bind fun t140 => (if t140 = 0 then (none) else ((spec_l01Gcd.f k t136 (wrap64 (Int.tdiv t137 t139))).bind fun t141 => (if t141 = 0 then (none) else ((spec_l01Gcd.f k (wrap64 (Int.tdiv t136 t141)) (wrap64 (Int.tdiv t138 t140))).bind fun t142 => (if t142 = 0 then (none) else (if (mx (mx (mx (mx (mx (mx (mx (wrap64 (Int.tdiv (wrap64 (Int.tdiv t135 t139)) t140)) (wrap64 (-(wrap64 (Int.tdiv (wrap64 (Int.tdiv t135 t139)) t140))))) (wrap64 (Int.tdiv (wrap64 (Int.tdiv t136 t141)) t142))) (wrap64 (-(wrap64 (Int.tdiv (wrap64 (Int.tdiv t136 t141)) t142))))) (wrap64 (Int.tdiv (wrap64 (Int.tdiv t137 t139)) t141))) (wrap64 (-(wrap64 (Int.tdiv (wrap64 (Int.tdiv t137 t139)) t141))))) (wrap64 (Int.tdiv (wrap64 (Int.tdiv t138 t140)) t142))) (wrap64 (-(wrap64 (Int.tdiv (wrap64 (Int.tdiv t138 t140)) t142))))) > 1000000 then (some (0, 0, 3)) else ((spec_l01EndOf.f k (wrap64 ((wrap64 (Int.tdiv (wrap64 (Int.tdiv t135 t139)) t140)) * (wrap64 (Int.tdiv (wrap64 (Int.tdiv t136 t141)) t142)))) (wrap64 ((wrap64 (Int.tdiv (wrap64 (Int.tdiv t137 t139)) t141)) * (wrap64 (Int.tdiv (wrap64 (Int.tdiv t138 t140)) t142))))).bind fun bt143 => (if bt143.2.2 = true then (some (bt143.1, bt143.2.1, 0)) else (some (0, 0, 3))))))))))))))))) else (some (0, 0, t134)))
theorem spec_CrossRatio.mono : ∀ a0 a1 a2 a3 a4 a5 a6 a7 k, LeO (spec_CrossRatio.f k a0 a1 a2 a3 a4 a5 a6 a7) (spec_CrossRatio.f (k + 1) a0 a1 a2 a3 a4 a5 a6 a7) := by
 intro a0 a1 a2 a3 a4 a5 a6 a7 k
 unfold spec_CrossRatio.f
 repeat' first
   | (with_reducible exact spec_l01EndOf.mono _ _ _)
   | (with_reducible exact spec_l01Gcd.mono _ _ _)
   | (with_reducible exact spec_l05Code.mono _ _ _ _)
   | (with_reducible exact LeO.refl _)
   | (with_reducible exact LeO.none _)
   | (with_reducible refine LeO.ite ?_ ?_)
   | (with_reducible refine LeO.bind ?_ (fun _ => ?_))
def spec_CrossRatio.T4 : Bool × List (List Nat × List Nat) := (true, [([], []), ([], []), ([0, 1], [0, 1]), ([], []), ([], []), ([3, 4, 2], [3, 4]), ([], []), ([], []), ([6, 7, 5], [6, 7]), ([], []), ([], []), ([9, 10, 8], [9, 10]), ([2, 11, 0, 1, 2], [2]), ([5, 12, 0, 1, 2, 3, 4, 5, 12], [5]), ([8, 13, 0, 1, 2, 3, 4, 5, 6, 7, 8, 12, 13], [8]), ([11, 14, 0, 1, 2, 3, 4, 5, 6, 7, 8, 9, 10, 11, 12, 13, 14], [11])])
def spec_CrossRatio.B4 : List Nat := [0, 0, 3, 0, 0, 31, 0, 0, 255, 0, 0, 2047, 4095, 8191, 16383, 32767]
theorem spec_CrossRatio.tab4 : rtab .any (opsOf Try.f4 4) = spec_CrossRatio.T4 := by kernel_rfl
theorem spec_CrossRatio.bits4 : waitsOk spec_CrossRatio.T4.2 spec_CrossRatio.B4 = true := by kernel_rfl
def spec_CrossRatio.T6 : Bool × List (List Nat × List Nat) := (true, [([], []), ([], []), ([0, 1], [0, 1]), ([], []), ([], []), ([3, 4], [3, 4]), ([2, 0, 1, 2], [0, 2]), ([5, 6, 0, 1, 2, 3, 4, 5, 6], [3, 5])])
def spec_CrossRatio.B6 : List Nat := [0, 0, 3, 0, 0, 24, 7, 127]
theorem spec_CrossRatio.tab6 : rtab .any (opsOf Try.f4 6) = spec_CrossRatio.T6 := by kernel_rfl
theorem spec_CrossRatio.bits6 : waitsOk spec_CrossRatio.T6.2 spec_CrossRatio.B6 = true := by kernel_rfl
def spec_CrossRatio.T8 : Bool × List (List Nat × List Nat) := (true, [([], []), ([], []), ([0, 1], [0, 1]), ([], []), ([], []), ([3, 4], [3, 4]), ([2, 0, 1, 2], [0, 2]), ([5, 6, 0, 1, 2, 3, 4, 5, 6], [3, 5])])
def spec_CrossRatio.B8 : List Nat := [0, 0, 3, 0, 0, 24, 7, 127]
theorem spec_CrossRatio.tab8 : rtab .any (opsOf Try.f4 8) = spec_CrossRatio.T8 := by kernel_rfl
theorem spec_CrossRatio.bits8 : waitsOk spec_CrossRatio.T8.2 spec_CrossRatio.B8 = true := by kernel_rfl
def spec_CrossRatio.T10 : Bool × List (List Nat × List Nat) := (true, [([], []), ([], []), ([0, 1], [0, 1]), ([], []), ([], []), ([3, 4], [3, 4]), ([2, 0, 1, 2], [0, 2]), ([5, 6, 0, 1, 2, 3, 4, 5, 6], [3, 5])])
def spec_CrossRatio.B10 : List Nat := [0, 0, 3, 0, 0, 24, 7, 127]
theorem spec_CrossRatio.tab10 : rtab .any (opsOf Try.f4 10) = spec_CrossRatio.T10 := by kernel_rfl
theorem spec_CrossRatio.bits10 : waitsOk spec_CrossRatio.T10.2 spec_CrossRatio.B10 = true := by kernel_rfl
def spec_CrossRatio.T12 : Bool × List (List Nat × List Nat) := (true, [([], []), ([], []), ([0, 1], [0, 1]), ([], []), ([], []), ([3, 4], [3, 4]), ([2, 0, 1, 2], [0, 2]), ([5, 6, 0, 1, 2, 3, 4, 5, 6], [3, 5])])
def spec_CrossRatio.B12 : List Nat := [0, 0, 3, 0, 0, 24, 7, 127]
theorem spec_CrossRatio.tab12 : rtab .any (opsOf Try.f4 12) = spec_CrossRatio.T12 := by kernel_rfl
theorem spec_CrossRatio.bits12 : waitsOk spec_CrossRatio.T12.2 spec_CrossRatio.B12 = true := by kernel_rfl
set_option maxHeartbeats 8000000 in
set_option maxRecDepth 100000 in
theorem spec_CrossRatio.calls (k : Nat) (a0_0 : Int) (a0_1 : Int) (a1_0 : Int) (a1_1 : Int) (a2_0 : Int) (a2_1 : Int) (a3_0 : Int) (a3_1 : Int) (r1 : Int) (r2 : Int) (r3 : Int) (w : World) (h : spec_CrossRatio.f k a0_0 a0_1 a1_0 a1_1 a2_0 a2_1 a3_0 a3_1 = some (r1, r2, r3)) :
  Calls Try.prog 4 #[.agg #[.int .i64 a0_0, .int .i64 a0_1], .agg #[.int .i64 a1_0, .int .i64 a1_1], .agg #[.int .i64 a2_0, .int .i64 a2_1], .agg #[.int .i64 a3_0, .int .i64 a3_1]] w fun e w' => e = .returned (.tuple #[.agg #[.int .i64 r1, .int .i64 r2], .int .i64 r3]) ∧ Below w.heap.size w w' := by
 have hu24 := Try.underlying24
 have HB := Aside0.mk (Below.refl w.heap.size w)
 have H := h
 unfold spec_CrossRatio.f at H
 clear h
 obtain ⟨y131, hy131⟩ : ∃ y_ : List (S24), y_ = (([(⟨a0_0, a0_1⟩ : S24), (⟨a1_0, a1_1⟩ : S24), (⟨a2_0, a2_1⟩ : S24), (⟨a3_0, a3_1⟩ : S24)] : List (S24))) := ⟨_, rfl⟩
 replace H : ((spec_l05Code.f k 2 ([] : List (S47)) y131).bind fun t134 => (if t134 = 0 then ((spec_l05Cross.f a0_0 a0_1 a2_0 a2_1).bind fun t135 => ((spec_l05Cross.f a1_0 a1_1 a3_0 a3_1).bind fun t136 => ((spec_l05Cross.f a0_0 a0_1 a3_0 a3_1).bind fun t137 => ((spec_l05Cross.f a1_0 a1_1 a2_0 a2_1).bind fun t138 => ((spec_l01Gcd.f k t135 t137).bind fun t139 => (if t139 = 0 then (none) else ((spec_l01Gcd.f k (wrap64 (Int.tdiv t135 t139)) t138).bind fun t140 => (if t140 = 0 then (none) else ((spec_l01Gcd.f k t136 (wrap64 (Int.tdiv t137 t139))).bind fun t141 => (if t141 = 0 then (none) else ((spec_l01Gcd.f k (wrap64 (Int.tdiv t136 t141)) (wrap64 (Int.tdiv t138 t140))).bind fun t142 => (if t142 = 0 then (none) else (if (mx (mx (mx (mx (mx (mx (mx (wrap64 (Int.tdiv (wrap64 (Int.tdiv t135 t139)) t140)) (wrap64 (-(wrap64 (Int.tdiv (wrap64 (Int.tdiv t135 t139)) t140))))) (wrap64 (Int.tdiv (wrap64 (Int.tdiv t136 t141)) t142))) (wrap64 (-(wrap64 (Int.tdiv (wrap64 (Int.tdiv t136 t141)) t142))))) (wrap64 (Int.tdiv (wrap64 (Int.tdiv t137 t139)) t141))) (wrap64 (-(wrap64 (Int.tdiv (wrap64 (Int.tdiv t137 t139)) t141))))) (wrap64 (Int.tdiv (wrap64 (Int.tdiv t138 t140)) t142))) (wrap64 (-(wrap64 (Int.tdiv (wrap64 (Int.tdiv t138 t140)) t142))))) > 1000000 then (some (0, 0, 3)) else ((spec_l01EndOf.f k (wrap64 ((wrap64 (Int.tdiv (wrap64 (Int.tdiv t135 t139)) t140)) * (wrap64 (Int.tdiv (wrap64 (Int.tdiv t136 t141)) t142)))) (wrap64 ((wrap64 (Int.tdiv (wrap64 (Int.tdiv t137 t139)) t141)) * (wrap64 (Int.tdiv (wrap64 (Int.tdiv t138 t140)) t142))))).bind fun bt143 => (if bt143.2.2 = true then (some (bt143.1, bt143.2.1, 0)) else (some (0, 0, 3))))))))))))))))) else (some (0, 0, t134)))) = some (r1, r2, r3) := by first | (rw [hy131]; with_reducible exact H) | (have H2_ := (Option.bind_some _ _).symm.trans H; rw [hy131]; with_reducible exact H2_) | (have H2_ := (Option.bind_some _ _).symm.trans H; with_reducible exact H2_) | with_reducible exact H | (rw [hy131]; exact H) | exact H
 have Ny131 := Aside0.mk hy131
 clear hy131
 replace H := bS H
 obtain ⟨t134, A5, H⟩ := H
 try dsimp only at H
 by_cases c6 : t134 = 0
 ·
  rw [if_pos c6] at H
  have c6b0 : (t134 == 0) = true := beq_iff_eq.mpr c6
  have c6b1 : (t134 != 0) = false := bne_eq_false_iff_eq.mpr c6
  clear c6
  replace H := bS H
  obtain ⟨t135, A7, H⟩ := H
  try dsimp only at H
  replace H := bS H
  obtain ⟨t136, A8, H⟩ := H
  try dsimp only at H
  replace H := bS H
  obtain ⟨t137, A9, H⟩ := H
  try dsimp only at H
  replace H := bS H
  obtain ⟨t138, A10, H⟩ := H
  try dsimp only at H
  replace H := bS H
  obtain ⟨t139, A11, H⟩ := H
  try dsimp only at H
  by_cases c12 : t139 = 0
  ·
   rw [if_pos c12] at H
   exact absurd H (by simp)
  ·
   rw [if_neg c12] at H
   have c12b0 : (t139 == 0) = false := beq_eq_false_iff_ne.mpr c12
   have c12b1 : (t139 != 0) = true := bne_iff_ne.mpr c12
   replace H := bS H
   obtain ⟨t140, A13, H⟩ := H
   try dsimp only at H
   by_cases c14 : t140 = 0
   ·
    rw [if_pos c14] at H
    exact absurd H (by simp)
   ·
    rw [if_neg c14] at H
    have c14b0 : (t140 == 0) = false := beq_eq_false_iff_ne.mpr c14
    have c14b1 : (t140 != 0) = true := bne_iff_ne.mpr c14
    replace H := bS H
    obtain ⟨t141, A15, H⟩ := H
    try dsimp only at H
    by_cases c16 : t141 = 0
    ·
     rw [if_pos c16] at H
     exact absurd H (by simp)
    ·
     rw [if_neg c16] at H
     have c16b0 : (t141 == 0) = false := beq_eq_false_iff_ne.mpr c16
     have c16b1 : (t141 != 0) = true := bne_iff_ne.mpr c16
     replace H := bS H
     obtain ⟨t142, A17, H⟩ := H
     try dsimp only at H
     by_cases c18 : t142 = 0
     ·
      rw [if_pos c18] at H
      exact absurd H (by simp)
     ·
      rw [if_neg c18] at H
      have c18b0 : (t142 == 0) = false := beq_eq_false_iff_ne.mpr c18
      have c18b1 : (t142 != 0) = true := bne_iff_ne.mpr c18
      obtain ⟨q1, hq1⟩ : ∃ j_ : Int, wrap64 (Int.tdiv t135 t139) = j_ := ⟨_, rfl⟩
      simp only [hq1] at H A13 A15 A17
      obtain ⟨q2, hq2⟩ : ∃ j_ : Int, wrap64 (Int.tdiv t137 t139) = j_ := ⟨_, rfl⟩
      (try simp only [hq2] at H)
      (try simp only [hq2] at A13)
      (try simp only [hq2] at A15)
      (try simp only [hq2] at A17)
      obtain ⟨q3, hq3⟩ : ∃ j_ : Int, wrap64 (Int.tdiv q1 t140) = j_ := ⟨_, rfl⟩
      (try simp only [hq3] at H)
      (try simp only [hq3] at A13)
      (try simp only [hq3] at A15)
      (try simp only [hq3] at A17)
      obtain ⟨q4, hq4⟩ : ∃ j_ : Int, wrap64 (Int.tdiv t138 t140) = j_ := ⟨_, rfl⟩
      (try simp only [hq4] at H)
      (try simp only [hq4] at A13)
      (try simp only [hq4] at A15)
      (try simp only [hq4] at A17)
      obtain ⟨q5, hq5⟩ : ∃ j_ : Int, wrap64 (Int.tdiv t136 t141) = j_ := ⟨_, rfl⟩
      (try simp only [hq5] at H)
      (try simp only [hq5] at A13)
      (try simp only [hq5] at A15)
      (try simp only [hq5] at A17)
      obtain ⟨q6, hq6⟩ : ∃ j_ : Int, wrap64 (Int.tdiv q2 t141) = j_ := ⟨_, rfl⟩
      (try simp only [hq6] at H)
      (try simp only [hq6] at A13)
      (try simp only [hq6] at A15)
      (try simp only [hq6] at A17)
      obtain ⟨q7, hq7⟩ : ∃ j_ : Int, wrap64 (Int.tdiv q5 t142) = j_ := ⟨_, rfl⟩
      (try simp only [hq7] at H)
      (try simp only [hq7] at A13)
      (try simp only [hq7] at A15)
      (try simp only [hq7] at A17)
      obtain ⟨q8, hq8⟩ : ∃ j_ : Int, wrap64 (Int.tdiv q4 t142) = j_ := ⟨_, rfl⟩
      (try simp only [hq8] at H)
      (try simp only [hq8] at A13)
      (try simp only [hq8] at A15)
      (try simp only [hq8] at A17)
      obtain ⟨ji19, hji19⟩ : ∃ j_ : Int, (mx q3 (wrap64 (-q3))) = j_ := ⟨_, rfl⟩
      replace H : (if (mx (mx (mx (mx (mx (mx (ji19) q7) (wrap64 (-q7))) q6) (wrap64 (-q6))) q8) (wrap64 (-q8))) > 1000000 then (some (0, 0, 3)) else ((spec_l01EndOf.f k (wrap64 (q3 * q7)) (wrap64 (q6 * q8))).bind fun bt143 => (if bt143.2.2 = true then (some (bt143.1, bt143.2.1, 0)) else (some (0, 0, 3))))) = some (r1, r2, r3) := by first | (rw [hji19] at H; exact H) | (simp only [hji19] at H ⊢; exact H)
      (try rw [hji19] at A5)
      (try rw [hji19] at A7)
      (try rw [hji19] at A8)
      (try rw [hji19] at A9)
      (try rw [hji19] at A10)
      (try rw [hji19] at A11)
      (try rw [hji19] at A13)
      (try rw [hji19] at A15)
      (try rw [hji19] at A17)
      have hji19_ : (if q3 < (wrap64 (-q3)) then (wrap64 (-q3)) else q3) = ji19 := hji19
      obtain ⟨ji20, hji20⟩ : ∃ j_ : Int, (mx (ji19) q7) = j_ := ⟨_, rfl⟩
      replace H : (if (mx (mx (mx (mx (mx (ji20) (wrap64 (-q7))) q6) (wrap64 (-q6))) q8) (wrap64 (-q8))) > 1000000 then (some (0, 0, 3)) else ((spec_l01EndOf.f k (wrap64 (q3 * q7)) (wrap64 (q6 * q8))).bind fun bt143 => (if bt143.2.2 = true then (some (bt143.1, bt143.2.1, 0)) else (some (0, 0, 3))))) = some (r1, r2, r3) := by first | (rw [hji20] at H; exact H) | (simp only [hji20] at H ⊢; exact H)
      (try rw [hji20] at A5)
      (try rw [hji20] at A7)
      (try rw [hji20] at A8)
      (try rw [hji20] at A9)
      (try rw [hji20] at A10)
      (try rw [hji20] at A11)
      (try rw [hji20] at A13)
      (try rw [hji20] at A15)
      (try rw [hji20] at A17)
      have hji20_ : (if (ji19) < q7 then q7 else (ji19)) = ji20 := hji20
      obtain ⟨ji21, hji21⟩ : ∃ j_ : Int, (mx (ji20) (wrap64 (-q7))) = j_ := ⟨_, rfl⟩
      replace H : (if (mx (mx (mx (mx (ji21) q6) (wrap64 (-q6))) q8) (wrap64 (-q8))) > 1000000 then (some (0, 0, 3)) else ((spec_l01EndOf.f k (wrap64 (q3 * q7)) (wrap64 (q6 * q8))).bind fun bt143 => (if bt143.2.2 = true then (some (bt143.1, bt143.2.1, 0)) else (some (0, 0, 3))))) = some (r1, r2, r3) := by first | (rw [hji21] at H; exact H) | (simp only [hji21] at H ⊢; exact H)
      (try rw [hji21] at A5)
      (try rw [hji21] at A7)
      (try rw [hji21] at A8)
      (try rw [hji21] at A9)
      (try rw [hji21] at A10)
      (try rw [hji21] at A11)
      (try rw [hji21] at A13)
      (try rw [hji21] at A15)
      (try rw [hji21] at A17)
      have hji21_ : (if (ji20) < (wrap64 (-q7)) then (wrap64 (-q7)) else (ji20)) = ji21 := hji21
      obtain ⟨ji22, hji22⟩ : ∃ j_ : Int, (mx (ji21) q6) = j_ := ⟨_, rfl⟩
      replace H : (if (mx (mx (mx (ji22) (wrap64 (-q6))) q8) (wrap64 (-q8))) > 1000000 then (some (0, 0, 3)) else ((spec_l01EndOf.f k (wrap64 (q3 * q7)) (wrap64 (q6 * q8))).bind fun bt143 => (if bt143.2.2 = true then (some (bt143.1, bt143.2.1, 0)) else (some (0, 0, 3))))) = some (r1, r2, r3) := by first | (rw [hji22] at H; exact H) | (simp only [hji22] at H ⊢; exact H)
      (try rw [hji22] at A5)
      (try rw [hji22] at A7)
      (try rw [hji22] at A8)
      (try rw [hji22] at A9)
      (try rw [hji22] at A10)
      (try rw [hji22] at A11)
      (try rw [hji22] at A13)
      (try rw [hji22] at A15)
      (try rw [hji22] at A17)
      have hji22_ : (if (ji21) < q6 then q6 else (ji21)) = ji22 := hji22
      obtain ⟨ji23, hji23⟩ : ∃ j_ : Int, (mx (ji22) (wrap64 (-q6))) = j_ := ⟨_, rfl⟩
      replace H : (if (mx (mx (ji23) q8) (wrap64 (-q8))) > 1000000 then (some (0, 0, 3)) else ((spec_l01EndOf.f k (wrap64 (q3 * q7)) (wrap64 (q6 * q8))).bind fun bt143 => (if bt143.2.2 = true then (some (bt143.1, bt143.2.1, 0)) else (some (0, 0, 3))))) = some (r1, r2, r3) := by first | (rw [hji23] at H; exact H) | (simp only [hji23] at H ⊢; exact H)
      (try rw [hji23] at A5)
      (try rw [hji23] at A7)
      (try rw [hji23] at A8)
      (try rw [hji23] at A9)
      (try rw [hji23] at A10)
      (try rw [hji23] at A11)
      (try rw [hji23] at A13)
      (try rw [hji23] at A15)
      (try rw [hji23] at A17)
      have hji23_ : (if (ji22) < (wrap64 (-q6)) then (wrap64 (-q6)) else (ji22)) = ji23 := hji23
      obtain ⟨ji24, hji24⟩ : ∃ j_ : Int, (mx (ji23) q8) = j_ := ⟨_, rfl⟩
      replace H : (if (mx (ji24) (wrap64 (-q8))) > 1000000 then (some (0, 0, 3)) else ((spec_l01EndOf.f k (wrap64 (q3 * q7)) (wrap64 (q6 * q8))).bind fun bt143 => (if bt143.2.2 = true then (some (bt143.1, bt143.2.1, 0)) else (some (0, 0, 3))))) = some (r1, r2, r3) := by first | (rw [hji24] at H; exact H) | (simp only [hji24] at H ⊢; exact H)
      (try rw [hji24] at A5)
      (try rw [hji24] at A7)
      (try rw [hji24] at A8)
      (try rw [hji24] at A9)
      (try rw [hji24] at A10)
      (try rw [hji24] at A11)
      (try rw [hji24] at A13)
      (try rw [hji24] at A15)
      (try rw [hji24] at A17)
      have hji24_ : (if (ji23) < q8 then q8 else (ji23)) = ji24 := hji24
      obtain ⟨ji25, hji25⟩ : ∃ j_ : Int, (mx (ji24) (wrap64 (-q8))) = j_ := ⟨_, rfl⟩
      replace H : (if (ji25) > 1000000 then (some (0, 0, 3)) else ((spec_l01EndOf.f k (wrap64 (q3 * q7)) (wrap64 (q6 * q8))).bind fun bt143 => (if bt143.2.2 = true then (some (bt143.1, bt143.2.1, 0)) else (some (0, 0, 3))))) = some (r1, r2, r3) := by first | (rw [hji25] at H; exact H) | (simp only [hji25] at H ⊢; exact H)
      (try rw [hji25] at A5)
      (try rw [hji25] at A7)
      (try rw [hji25] at A8)
      (try rw [hji25] at A9)
      (try rw [hji25] at A10)
      (try rw [hji25] at A11)
      (try rw [hji25] at A13)
      (try rw [hji25] at A15)
      (try rw [hji25] at A17)
      have hji25_ : (if (ji24) < (wrap64 (-q8)) then (wrap64 (-q8)) else (ji24)) = ji25 := hji25
      by_cases c26 : (ji25) > 1000000
      ·
       rw [if_pos c26] at H
       have c26b0 : decide (1000000 < (ji25)) = true := decide_eq_true c26
       clear c26
       simp only [Option.some.injEq, Prod.mk.injEq] at H
       obtain ⟨rfl, rfl, rfl⟩ := H
       go_enter Try.func4, Try.ntmps4
       try go_wp2_with (first | ((with_reducible refine gate_dst (N := 4) rfl ?_); refine box_event ?hg (N := 4) ?hd (cs := #[.int .i64 a0_0, .int .i64 a0_1]) (t := 24) ?hr ?_; (case hd => rfl); (case hg => rfl); (case hr => first | (go_simp; done) | (go_simp; rfl)); intro gb126 hg w27 hbox hb; have n0_ := lB hb; have n1_ := Aside0.mk (hbox); have n2_ := sA hg; have n3_ := sA hg; clear HB; have HB := n0_; have BK126 := n1_; have GW126 := n2_; have GE126 := n3_; clear n0_ n1_ n2_ n3_; clear hb hbox hg) | ((with_reducible refine gate_dst (N := 5) rfl ?_); refine box_event ?hg (N := 5) ?hd (cs := #[.int .i64 a1_0, .int .i64 a1_1]) (t := 24) ?hr ?_; (case hd => rfl); (case hg => rfl); (case hr => first | (go_simp; done) | (go_simp; rfl)); intro gb127 hg w28 hbox hb; have n0_ := kB BK126 hb; have n1_ := lB hb; have n2_ := Aside0.mk (hbox); have n3_ := sA hg; have n4_ := sA hg; have n5_ := nA hg BK126; have n6_ := nB hg BK126; clear BK126; clear HB; have BK126 := n0_; have HB := n1_; have BK127 := n2_; have GW127 := n3_; have GE127 := n4_; have NB126_127 := n5_; have NB127_126 := n6_; clear n0_ n1_ n2_ n3_ n4_ n5_ n6_; clear hb hbox hg) | ((with_reducible refine gate_dst (N := 6) rfl ?_); refine box_event ?hg (N := 6) ?hd (cs := #[.int .i64 a2_0, .int .i64 a2_1]) (t := 24) ?hr ?_; (case hd => rfl); (case hg => rfl); (case hr => first | (go_simp; done) | (go_simp; rfl)); intro gb128 hg w29 hbox hb; have n0_ := kB BK126 hb; have n1_ := kB BK127 hb; have n2_ := lB hb; have n3_ := Aside0.mk (hbox); have n4_ := sA hg; have n5_ := sA hg; have n6_ := nA hg BK126; have n7_ := nB hg BK126; have n8_ := nA hg BK127; have n9_ := nB hg BK127; clear BK126; clear BK127; clear HB; have BK126 := n0_; have BK127 := n1_; have HB := n2_; have BK128 := n3_; have GW128 := n4_; have GE128 := n5_; have NB126_128 := n6_; have NB128_126 := n7_; have NB127_128 := n8_; have NB128_127 := n9_; clear n0_ n1_ n2_ n3_ n4_ n5_ n6_ n7_ n8_ n9_; clear hb hbox hg) | ((with_reducible refine gate_dst (N := 7) rfl ?_); refine box_event ?hg (N := 7) ?hd (cs := #[.int .i64 a3_0, .int .i64 a3_1]) (t := 24) ?hr ?_; (case hd => rfl); (case hg => rfl); (case hr => first | (go_simp; done) | (go_simp; rfl)); intro gb129 hg w30 hbox hb; have n0_ := kB BK126 hb; have n1_ := kB BK127 hb; have n2_ := kB BK128 hb; have n3_ := lB hb; have n4_ := Aside0.mk (hbox); have n5_ := sA hg; have n6_ := sA hg; have n7_ := nA hg BK126; have n8_ := nB hg BK126; have n9_ := nA hg BK127; have n10_ := nB hg BK127; have n11_ := nA hg BK128; have n12_ := nB hg BK128; clear BK126; clear BK127; clear BK128; clear HB; have BK126 := n0_; have BK127 := n1_; have BK128 := n2_; have HB := n3_; have BK129 := n4_; have GW129 := n5_; have GE129 := n6_; have NB126_129 := n7_; have NB129_126 := n8_; have NB127_129 := n9_; have NB129_127 := n10_; have NB128_129 := n11_; have NB129_128 := n12_; clear n0_ n1_ n2_ n3_ n4_ n5_ n6_ n7_ n8_ n9_ n10_ n11_ n12_; clear hb hbox hg) | ((with_reducible refine gate_dst (N := 8) rfl ?_); refine box_event ?hg (N := 8) ?hd (cs := #[.int .i64 0, .int .i64 0]) (t := 24) ?hr ?_; (case hd => rfl); (case hg => rfl); (case hr => first | (go_simp; done) | (go_simp; rfl)); intro gb130 hg w31 hbox hb; have n0_ := kB BK126 hb; have n1_ := kB BK127 hb; have n2_ := kB BK128 hb; have n3_ := kB BK129 hb; have n4_ := lB hb; have n5_ := Aside0.mk (hbox); have n6_ := sA hg; have n7_ := sA hg; have n8_ := nA hg BK126; have n9_ := nB hg BK126; have n10_ := nA hg BK127; have n11_ := nB hg BK127; have n12_ := nA hg BK128; have n13_ := nB hg BK128; have n14_ := nA hg BK129; have n15_ := nB hg BK129; clear BK126; clear BK127; clear BK128; clear BK129; clear HB; have BK126 := n0_; have BK127 := n1_; have BK128 := n2_; have BK129 := n3_; have HB := n4_; have BK130 := n5_; have GW130 := n6_; have GE130 := n7_; have NB126_130 := n8_; have NB130_126 := n9_; have NB127_130 := n10_; have NB130_127 := n11_; have NB128_130 := n12_; have NB130_128 := n13_; have NB129_130 := n14_; have NB130_129 := n15_; clear n0_ n1_ n2_ n3_ n4_ n5_ n6_ n7_ n8_ n9_ n10_ n11_ n12_ n13_ n14_ n15_; clear hb hbox hg; have hnb32 := NB126_127.out; have hnc32 := NB127_126.out; have hnb33 := NB126_128.out; have hnc33 := NB128_126.out; have hnb34 := NB126_129.out; have hnc34 := NB129_126.out; have hnb35 := NB126_130.out; have hnc35 := NB130_126.out; obtain ⟨hcz36_0, hcz36_1, hfz36_0, hfz36_1⟩ := cz2 BK126; have hnb37 := NB127_128.out; have hnc37 := NB128_127.out; have hnb38 := NB127_129.out; have hnc38 := NB129_127.out; have hnb39 := NB127_130.out; have hnc39 := NB130_127.out; obtain ⟨hcz40_0, hcz40_1, hfz40_0, hfz40_1⟩ := cz2 BK127; have hnb41 := NB128_129.out; have hnc41 := NB129_128.out; have hnb42 := NB128_130.out; have hnc42 := NB130_128.out; obtain ⟨hcz43_0, hcz43_1, hfz43_0, hfz43_1⟩ := cz2 BK128; have hnb44 := NB129_130.out; have hnc44 := NB130_129.out; obtain ⟨hcz45_0, hcz45_1, hfz45_0, hfz45_1⟩ := cz2 BK129) | ((with_reducible refine gate_dst (N := 22) rfl ?_); refine Kd.R_lit k24 _ 24 ?hg (N := 22) ?hd (xs := ([(⟨a0_0, a0_1⟩ : S24), (⟨a1_0, a1_1⟩ : S24), (⟨a2_0, a2_1⟩ : S24), (⟨a3_0, a3_1⟩ : S24)] : List (S24))) (inner := [.int .i64 a0_0, .int .i64 a0_1, .int .i64 a1_0, .int .i64 a1_1, .int .i64 a2_0, .int .i64 a2_1, .int .i64 a3_0, .int .i64 a3_1]) (ok := fun _ => True) (okp := fun _ => True) ?hr ?hp (fun _ hk => hk) trivial (Below.refl _ _) (Nat.le_refl _) (by simp) ?_; (case hd => rfl); (case hg => rfl); (case hr => first | (go_simp; done) | (go_simp; rfl)); (case hp => exact (Reps.c2 (show Kd.M k24 _ _ _ (⟨a0_0, a0_1⟩ : S24) [.int .i64 a0_0, .int .i64 a0_1] from (k24_mkM _ _ _ (⟨a0_0, a0_1⟩ : S24) )) (Reps.c2 (show Kd.M k24 _ _ _ (⟨a1_0, a1_1⟩ : S24) [.int .i64 a1_0, .int .i64 a1_1] from (k24_mkM _ _ _ (⟨a1_0, a1_1⟩ : S24) )) (Reps.c2 (show Kd.M k24 _ _ _ (⟨a2_0, a2_1⟩ : S24) [.int .i64 a2_0, .int .i64 a2_1] from (k24_mkM _ _ _ (⟨a2_0, a2_1⟩ : S24) )) (Reps.c2 (show Kd.M k24 _ _ _ (⟨a3_0, a3_1⟩ : S24) [.int .i64 a3_0, .int .i64 a3_1] from (k24_mkM _ _ _ (⟨a3_0, a3_1⟩ : S24) )) (Reps.none _ _)))))); intro v132 w46 ho47 hb hg_ hnew_; clear hg_ hnew_; (first | rw [← Ny131.out] at ho47 | (simp only [Int.reduceToNat] at ho47; rw [← Ny131.out] at ho47)); have n0_ := Aside0.mk (Kd.R_lower (Kd.R_newB (Kd.R_newB (Kd.R_newB (Kd.R_newB (Kd.R_newB ho47 (bkA BK126)) (bkA BK127)) (bkA BK128)) (bkA BK129)) (bkA BK130)) (below_size blA)); have n1_ := kB BK126 hb; have n2_ := kB BK127 hb; have n3_ := kB BK128 hb; have n4_ := kB BK129 hb; have n5_ := kB BK130 hb; have n6_ := lB hb; clear BK126; clear BK127; clear BK128; clear BK129; clear BK130; clear HB; have HO133 := n0_; have BK126 := n1_; have BK127 := n2_; have BK128 := n3_; have BK129 := n4_; have BK130 := n5_; have HB := n6_; clear n0_ n1_ n2_ n3_ n4_ n5_ n6_; clear hb ho47; obtain ⟨Ao48, co48, eo48⟩ := Kd.R_slice HO133.out; subst eo48) | ((with_reducible refine gate_callee (f := 8) rfl ?_); refine goesL_ (some 23) rfl rfl Try.func8 (by kernel_rfl) rfl #[.int .i64 2, .slice none 0 0, .slice Ao48 y131.length co48] rfl hA ?_; (refine (spec_l05Code.calls k 2 _ _ ([] : List (S47)) _ _ y131 t134 _ ?side1 ?side2 ?side3 ?side4 A5.out).mono ?_); (case side1 => exact Kd.C_nil _ _); (case side2 => exact Nat.le_refl _); (case side3 => repeat (first | exact (Kd.R_reads' HO133.out).2.2 | (with_reducible refine Kd.C_alloc ?_ _) | (with_reducible refine Kd.C_drewN ?_ _) | (with_reducible refine Kd.C_drew ?_))); (case side4 => exact (Kd.R_reads' HO133.out).2.1); rintro e w49 ⟨rfl, hb⟩; refine ⟨_, rfl, ?_⟩; have n0_ := Aside0.mk (Kd.R_below (rA HO133) hb); have n1_ := kB BK126 hb; have n2_ := kB BK127 hb; have n3_ := kB BK128 hb; have n4_ := kB BK129 hb; have n5_ := kB BK130 hb; have n6_ := lB hb; clear HO133; clear BK126; clear BK127; clear BK128; clear BK129; clear BK130; clear HB; have HO133 := n0_; have BK126 := n1_; have BK127 := n2_; have BK128 := n3_; have BK129 := n4_; have BK130 := n5_; have HB := n6_; clear n0_ n1_ n2_ n3_ n4_ n5_ n6_; (try clear hb); (try clear hb2); (try clear hk); (try clear hi)))
       have n0_ := Aside0.mk (Kd.R_drew HO133.out)
       have n1_ := Aside0.mk (blk_drew BK126.out)
       have n2_ := Aside0.mk (blk_drew BK127.out)
       have n3_ := Aside0.mk (blk_drew BK128.out)
       have n4_ := Aside0.mk (blk_drew BK129.out)
       have n5_ := Aside0.mk (blk_drew BK130.out)
       have n6_ := Aside0.mk (below_drew1 HB.out)
       clear HO133
       clear BK126
       clear BK127
       clear BK128
       clear BK129
       clear BK130
       clear HB
       have HO133 := n0_
       have BK126 := n1_
       have BK127 := n2_
       have BK128 := n3_
       have BK129 := n4_
       have BK130 := n5_
       have HB := n6_
       clear n0_ n1_ n2_ n3_ n4_ n5_ n6_
       refine start_ (n := 16) (S := fun w' => w'.cell? ⟨gb126, 0, none⟩ = some (.int .i64 a0_0) ∧ w'.cell? ⟨gb126, 1, none⟩ = some (.int .i64 a0_1) ∧ w'.cell? ⟨gb128, 0, none⟩ = some (.int .i64 a2_0) ∧ w'.cell? ⟨gb128, 1, none⟩ = some (.int .i64 a2_1) ∧ w'.cell? ⟨gb127, 0, none⟩ = some (.int .i64 a1_0) ∧ w'.cell? ⟨gb127, 1, none⟩ = some (.int .i64 a1_1) ∧ w'.cell? ⟨gb129, 0, none⟩ = some (.int .i64 a3_0) ∧ w'.cell? ⟨gb129, 1, none⟩ = some (.int .i64 a3_1)) (ds := []) #[Z, Z, Z, Z, Z, Z, Z, Z, Z, Z, Z, Z, Z, Z, Z, Z] (by kernel_rfl) rfl rfl ⟨cA BK126 0, cA BK126 1, cA BK128 0, cA BK128 1, cA BK127 0, cA BK127 1, cA BK129 0, cA BK129 1⟩ (fun hHeld => ?_); refine with_tabW spec_CrossRatio.tab4 spec_CrossRatio.bits4 (fun HT_ HW_ => ?_)
       generalize w49.drew = w50 at HO133 BK126 BK127 BK128 BK129 BK130 HB hHeld ⊢
       refine take_ (i := 0) (N := some 28) (v := ?_) (a' := ?_) #[Y, Z, Z, Z, Z, Z, Z, Z, Z, Z, Z, Z, Z, Z, Z, Z] rfl rfl (take_ofW HT_.out HW_.out (by kernel_rfl)) (fun _ _ _ h => h) (Or.inl ⟨by rfl, ?_⟩) hHeld ?_ ?_
       rotate_left
       ·
        rintro w' ⟨s0, s1, s2, s3, s4, s5, s6, s7⟩
        go_simp
        with_reducible rfl
       rotate_left
       ·
        simp only [pA]
        rfl
       refine take_ (i := 1) (N := some 29) (v := ?_) (a' := ?_) #[Y, Y, Z, Z, Z, Z, Z, Z, Z, Z, Z, Z, Z, Z, Z, Z] rfl rfl (take_ofW HT_.out HW_.out (by kernel_rfl)) (fun _ _ _ h => h) (Or.inl ⟨by rfl, ?_⟩) hHeld ?_ ?_
       rotate_left
       ·
        rintro w' ⟨s0, s1, s2, s3, s4, s5, s6, s7⟩
        go_simp
        with_reducible rfl
       rotate_left
       ·
        simp only [pA]
        rfl
       refine take_ (i := 3) (N := some 31) (v := ?_) (a' := ?_) #[Y, Y, Z, Y, Z, Z, Z, Z, Z, Z, Z, Z, Z, Z, Z, Z] rfl rfl (take_ofW HT_.out HW_.out (by kernel_rfl)) (fun _ _ _ h => h) (Or.inl ⟨by rfl, ?_⟩) hHeld ?_ ?_
       rotate_left
       ·
        rintro w' ⟨s0, s1, s2, s3, s4, s5, s6, s7⟩
        go_simp
        with_reducible rfl
       rotate_left
       ·
        simp only [pA]
        rfl
       refine take_ (i := 4) (N := some 32) (v := ?_) (a' := ?_) #[Y, Y, Z, Y, Y, Z, Z, Z, Z, Z, Z, Z, Z, Z, Z, Z] rfl rfl (take_ofW HT_.out HW_.out (by kernel_rfl)) (fun _ _ _ h => h) (Or.inl ⟨by rfl, ?_⟩) hHeld ?_ ?_
       rotate_left
       ·
        rintro w' ⟨s0, s1, s2, s3, s4, s5, s6, s7⟩
        go_simp
        with_reducible rfl
       rotate_left
       ·
        simp only [pA]
        rfl
       refine take_ (i := 6) (N := some 34) (v := ?_) (a' := ?_) #[Y, Y, Z, Y, Y, Z, Y, Z, Z, Z, Z, Z, Z, Z, Z, Z] rfl rfl (take_ofW HT_.out HW_.out (by kernel_rfl)) (fun _ _ _ h => h) (Or.inl ⟨by rfl, ?_⟩) hHeld ?_ ?_
       rotate_left
       ·
        rintro w' ⟨s0, s1, s2, s3, s4, s5, s6, s7⟩
        go_simp
        with_reducible rfl
       rotate_left
       ·
        simp only [pA]
        rfl
       refine take_ (i := 7) (N := some 35) (v := ?_) (a' := ?_) #[Y, Y, Z, Y, Y, Z, Y, Y, Z, Z, Z, Z, Z, Z, Z, Z] rfl rfl (take_ofW HT_.out HW_.out (by kernel_rfl)) (fun _ _ _ h => h) (Or.inl ⟨by rfl, ?_⟩) hHeld ?_ ?_
       rotate_left
       ·
        rintro w' ⟨s0, s1, s2, s3, s4, s5, s6, s7⟩
        go_simp
        with_reducible rfl
       rotate_left
       ·
        simp only [pA]
        rfl
       refine take_ (i := 9) (N := some 37) (v := ?_) (a' := ?_) #[Y, Y, Z, Y, Y, Z, Y, Y, Z, Y, Z, Z, Z, Z, Z, Z] rfl rfl (take_ofW HT_.out HW_.out (by kernel_rfl)) (fun _ _ _ h => h) (Or.inl ⟨by rfl, ?_⟩) hHeld ?_ ?_
       rotate_left
       ·
        rintro w' ⟨s0, s1, s2, s3, s4, s5, s6, s7⟩
        go_simp
        with_reducible rfl
       rotate_left
       ·
        simp only [pA]
        rfl
       refine take_ (i := 10) (N := some 38) (v := ?_) (a' := ?_) #[Y, Y, Z, Y, Y, Z, Y, Y, Z, Y, Y, Z, Z, Z, Z, Z] rfl rfl (take_ofW HT_.out HW_.out (by kernel_rfl)) (fun _ _ _ h => h) (Or.inl ⟨by rfl, ?_⟩) hHeld ?_ ?_
       rotate_left
       ·
        rintro w' ⟨s0, s1, s2, s3, s4, s5, s6, s7⟩
        go_simp
        with_reducible rfl
       rotate_left
       ·
        simp only [pA]
        rfl
       refine one_ (i := 2) (N := some 30) #[Y, Y, Y, Y, Y, Z, Y, Y, Z, Y, Y, Z, Z, Z, Z, Z] rfl rfl (one_of HT_.out (by kernel_rfl)) (by decide) (fun K hK => ?_)
       refine goes_ Try.func9 (by kernel_rfl) rfl #[.agg #[.int .i64 a0_0, .int .i64 a0_1], .agg #[.int .i64 a2_0, .int .i64 a2_1]] (by rfl) rfl rfl hA ?_
       with_reducible refine (spec_l05Cross.calls a0_0 a0_1 a2_0 a2_1 t135 _ A7.out).mono ?_
       rintro e w51 ⟨rfl, hb⟩
       refine ⟨_, rfl, ?_⟩
       replace HO133 := Aside0.mk (Kd.R_below (rA HO133) hb)
       replace BK126 := kB BK126 hb
       replace BK127 := kB BK127 hb
       replace BK128 := kB BK128 hb
       replace BK129 := kB BK129 hb
       replace BK130 := kB BK130 hb
       replace HB := lB hb
       (try clear hb)
       (try clear hb2)
       (try clear hk)
       (try clear hi)
       refine hK.out _ _ ⟨cA BK126 0, cA BK126 1, cA BK128 0, cA BK128 1, cA BK127 0, cA BK127 1, cA BK129 0, cA BK129 1⟩ (fun hHeld => ?_)
       clear hK K
       refine norm_ (a' := ?_) ?_ ?_
       rotate_left
       ·
        show Act.put _ (some 30) _ = _
        simp only [pA]
        rfl
       refine one_ (i := 5) (N := some 33) #[Y, Y, Y, Y, Y, Y, Y, Y, Z, Y, Y, Z, Z, Z, Z, Z] rfl rfl (one_of HT_.out (by kernel_rfl)) (by decide) (fun K hK => ?_)
       refine goes_ Try.func9 (by kernel_rfl) rfl #[.agg #[.int .i64 a1_0, .int .i64 a1_1], .agg #[.int .i64 a3_0, .int .i64 a3_1]] (by rfl) rfl rfl hA ?_
       with_reducible refine (spec_l05Cross.calls a1_0 a1_1 a3_0 a3_1 t136 _ A8.out).mono ?_
       rintro e w52 ⟨rfl, hb⟩
       refine ⟨_, rfl, ?_⟩
       replace HO133 := Aside0.mk (Kd.R_below (rA HO133) hb)
       replace BK126 := kB BK126 hb
       replace BK127 := kB BK127 hb
       replace BK128 := kB BK128 hb
       replace BK129 := kB BK129 hb
       replace BK130 := kB BK130 hb
       replace HB := lB hb
       (try clear hb)
       (try clear hb2)
       (try clear hk)
       (try clear hi)
       refine hK.out _ _ ⟨cA BK126 0, cA BK126 1, cA BK128 0, cA BK128 1, cA BK127 0, cA BK127 1, cA BK129 0, cA BK129 1⟩ (fun hHeld => ?_)
       clear hK K
       refine norm_ (a' := ?_) ?_ ?_
       rotate_left
       ·
        show Act.put _ (some 33) _ = _
        simp only [pA]
        rfl
       refine one_ (i := 8) (N := some 36) #[Y, Y, Y, Y, Y, Y, Y, Y, Y, Y, Y, Z, Z, Z, Z, Z] rfl rfl (one_of HT_.out (by kernel_rfl)) (by decide) (fun K hK => ?_)
       refine goes_ Try.func9 (by kernel_rfl) rfl #[.agg #[.int .i64 a0_0, .int .i64 a0_1], .agg #[.int .i64 a3_0, .int .i64 a3_1]] (by rfl) rfl rfl hA ?_
       with_reducible refine (spec_l05Cross.calls a0_0 a0_1 a3_0 a3_1 t137 _ A9.out).mono ?_
       rintro e w53 ⟨rfl, hb⟩
       refine ⟨_, rfl, ?_⟩
       replace HO133 := Aside0.mk (Kd.R_below (rA HO133) hb)
       replace BK126 := kB BK126 hb
       replace BK127 := kB BK127 hb
       replace BK128 := kB BK128 hb
       replace BK129 := kB BK129 hb
       replace BK130 := kB BK130 hb
       replace HB := lB hb
       (try clear hb)
       (try clear hb2)
       (try clear hk)
       (try clear hi)
       refine hK.out _ _ ⟨cA BK126 0, cA BK126 1, cA BK128 0, cA BK128 1, cA BK127 0, cA BK127 1, cA BK129 0, cA BK129 1⟩ (fun hHeld => ?_)
       clear hK K
       refine norm_ (a' := ?_) ?_ ?_
       rotate_left
       ·
        show Act.put _ (some 36) _ = _
        simp only [pA]
        rfl
       refine one_ (i := 11) (N := some 39) #[Y, Y, Y, Y, Y, Y, Y, Y, Y, Y, Y, Y, Z, Z, Z, Z] rfl rfl (one_of HT_.out (by kernel_rfl)) (by decide) (fun K hK => ?_)
       refine goes_ Try.func9 (by kernel_rfl) rfl #[.agg #[.int .i64 a1_0, .int .i64 a1_1], .agg #[.int .i64 a2_0, .int .i64 a2_1]] (by rfl) rfl rfl hA ?_
       with_reducible refine (spec_l05Cross.calls a1_0 a1_1 a2_0 a2_1 t138 _ A10.out).mono ?_
       rintro e w54 ⟨rfl, hb⟩
       refine ⟨_, rfl, ?_⟩
       replace HO133 := Aside0.mk (Kd.R_below (rA HO133) hb)
       replace BK126 := kB BK126 hb
       replace BK127 := kB BK127 hb
       replace BK128 := kB BK128 hb
       replace BK129 := kB BK129 hb
       replace BK130 := kB BK130 hb
       replace HB := lB hb
       (try clear hb)
       (try clear hb2)
       (try clear hk)
       (try clear hi)
       refine hK.out _ _ ⟨cA BK126 0, cA BK126 1, cA BK128 0, cA BK128 1, cA BK127 0, cA BK127 1, cA BK129 0, cA BK129 1⟩ (fun hHeld => ?_)
       clear hK K
       refine norm_ (a' := ?_) ?_ ?_
       rotate_left
       ·
        show Act.put _ (some 39) _ = _
        simp only [pA]
        rfl
       refine puA (i := 12) (N := some 11) #[Y, Y, Y, Y, Y, Y, Y, Y, Y, Y, Y, Y, Y, Z, Z, Z] rfl rfl HT_ ?_
       refine puA (i := 13) (N := some 12) #[Y, Y, Y, Y, Y, Y, Y, Y, Y, Y, Y, Y, Y, Y, Z, Z] rfl rfl HT_ ?_
       refine puA (i := 14) (N := some 13) #[Y, Y, Y, Y, Y, Y, Y, Y, Y, Y, Y, Y, Y, Y, Y, Z] rfl rfl HT_ ?_
       refine puA (i := 15) (N := some 14) #[Y, Y, Y, Y, Y, Y, Y, Y, Y, Y, Y, Y, Y, Y, Y, Y] rfl rfl HT_ ?_
       refine done_ (done_of HT_.out (by kernel_rfl)) ?_
       try go_wp2_with (first | ((with_reducible refine gate_callee (f := 10) rfl ?_); refine goesL_ (some 42) rfl rfl Try.func10 (by kernel_rfl) rfl #[.int .i64 t135, .int .i64 t137] rfl hA ?_; (with_reducible refine (spec_l01Gcd.calls k t135 t137 t139 _ A11.out).mono ?_); rintro e w55 ⟨rfl, hb⟩; refine ⟨_, rfl, ?_⟩; have n0_ := Aside0.mk (Kd.R_below (rA HO133) hb); have n1_ := kB BK126 hb; have n2_ := kB BK127 hb; have n3_ := kB BK128 hb; have n4_ := kB BK129 hb; have n5_ := kB BK130 hb; have n6_ := lB hb; clear HO133; clear BK126; clear BK127; clear BK128; clear BK129; clear BK130; clear HB; have HO133 := n0_; have BK126 := n1_; have BK127 := n2_; have BK128 := n3_; have BK129 := n4_; have BK130 := n5_; have HB := n6_; clear n0_ n1_ n2_ n3_ n4_ n5_ n6_; (try clear hb); (try clear hb2); (try clear hk); (try clear hi)))
       have n0_ := Aside0.mk (Kd.R_drew HO133.out)
       have n1_ := Aside0.mk (blk_drew BK126.out)
       have n2_ := Aside0.mk (blk_drew BK127.out)
       have n3_ := Aside0.mk (blk_drew BK128.out)
       have n4_ := Aside0.mk (blk_drew BK129.out)
       have n5_ := Aside0.mk (blk_drew BK130.out)
       have n6_ := Aside0.mk (below_drew1 HB.out)
       clear HO133
       clear BK126
       clear BK127
       clear BK128
       clear BK129
       clear BK130
       clear HB
       have HO133 := n0_
       have BK126 := n1_
       have BK127 := n2_
       have BK128 := n3_
       have BK129 := n4_
       have BK130 := n5_
       have HB := n6_
       clear n0_ n1_ n2_ n3_ n4_ n5_ n6_
       refine start_ (n := 8) (S := fun w' => True) (ds := []) #[Z, Z, Z, Z, Z, Z, Z, Z] (by kernel_rfl) rfl rfl trivial (fun hHeld => ?_); refine with_tabW spec_CrossRatio.tab6 spec_CrossRatio.bits6 (fun HT_ HW_ => ?_)
       generalize w55.drew = w56 at HO133 BK126 BK127 BK128 BK129 BK130 HB hHeld ⊢
       refine puA (i := 0) (N := some 43) #[Y, Z, Z, Z, Z, Z, Z, Z] rfl rfl HT_ ?_
       refine puA (i := 1) (N := some 44) #[Y, Y, Z, Z, Z, Z, Z, Z] rfl rfl HT_ ?_
       refine puA (i := 2) (N := some 45) #[Y, Y, Y, Z, Z, Z, Z, Z] rfl rfl HT_ ?_
       refine puA (i := 3) (N := some 46) #[Y, Y, Y, Y, Z, Z, Z, Z] rfl rfl HT_ ?_
       refine puA (i := 4) (N := some 47) #[Y, Y, Y, Y, Y, Z, Z, Z] rfl rfl HT_ ?_
       refine puA (i := 5) (N := some 48) #[Y, Y, Y, Y, Y, Y, Z, Z] rfl rfl HT_ ?_
       refine puA (i := 6) (N := some 11) #[Y, Y, Y, Y, Y, Y, Y, Z] rfl rfl HT_ ?_
       refine puA (i := 7) (N := some 13) #[Y, Y, Y, Y, Y, Y, Y, Y] rfl rfl HT_ ?_
       refine done_ (done_of HT_.out (by kernel_rfl)) ?_
       try go_wp2_with (first | ((with_reducible refine gate_callee (f := 10) rfl ?_); refine goesL_ (some 51) rfl rfl Try.func10 (by kernel_rfl) rfl #[.int .i64 q1, .int .i64 t138] rfl hA ?_; (with_reducible refine (spec_l01Gcd.calls k q1 t138 t140 _ A13.out).mono ?_); rintro e w57 ⟨rfl, hb⟩; refine ⟨_, rfl, ?_⟩; have n0_ := Aside0.mk (Kd.R_below (rA HO133) hb); have n1_ := kB BK126 hb; have n2_ := kB BK127 hb; have n3_ := kB BK128 hb; have n4_ := kB BK129 hb; have n5_ := kB BK130 hb; have n6_ := lB hb; clear HO133; clear BK126; clear BK127; clear BK128; clear BK129; clear BK130; clear HB; have HO133 := n0_; have BK126 := n1_; have BK127 := n2_; have BK128 := n3_; have BK129 := n4_; have BK130 := n5_; have HB := n6_; clear n0_ n1_ n2_ n3_ n4_ n5_ n6_; (try clear hb); (try clear hb2); (try clear hk); (try clear hi)))
       have n0_ := Aside0.mk (Kd.R_drew HO133.out)
       have n1_ := Aside0.mk (blk_drew BK126.out)
       have n2_ := Aside0.mk (blk_drew BK127.out)
       have n3_ := Aside0.mk (blk_drew BK128.out)
       have n4_ := Aside0.mk (blk_drew BK129.out)
       have n5_ := Aside0.mk (blk_drew BK130.out)
       have n6_ := Aside0.mk (below_drew1 HB.out)
       clear HO133
       clear BK126
       clear BK127
       clear BK128
       clear BK129
       clear BK130
       clear HB
       have HO133 := n0_
       have BK126 := n1_
       have BK127 := n2_
       have BK128 := n3_
       have BK129 := n4_
       have BK130 := n5_
       have HB := n6_
       clear n0_ n1_ n2_ n3_ n4_ n5_ n6_
       refine start_ (n := 8) (S := fun w' => True) (ds := []) #[Z, Z, Z, Z, Z, Z, Z, Z] (by kernel_rfl) rfl rfl trivial (fun hHeld => ?_); refine with_tabW spec_CrossRatio.tab8 spec_CrossRatio.bits8 (fun HT_ HW_ => ?_)
       generalize w57.drew = w58 at HO133 BK126 BK127 BK128 BK129 BK130 HB hHeld ⊢
       refine puA (i := 0) (N := some 52) #[Y, Z, Z, Z, Z, Z, Z, Z] rfl rfl HT_ ?_
       refine puA (i := 1) (N := some 53) #[Y, Y, Z, Z, Z, Z, Z, Z] rfl rfl HT_ ?_
       refine puA (i := 2) (N := some 54) #[Y, Y, Y, Z, Z, Z, Z, Z] rfl rfl HT_ ?_
       refine puA (i := 3) (N := some 55) #[Y, Y, Y, Y, Z, Z, Z, Z] rfl rfl HT_ ?_
       refine puA (i := 4) (N := some 56) #[Y, Y, Y, Y, Y, Z, Z, Z] rfl rfl HT_ ?_
       refine puA (i := 5) (N := some 57) #[Y, Y, Y, Y, Y, Y, Z, Z] rfl rfl HT_ ?_
       refine puA (i := 6) (N := some 11) #[Y, Y, Y, Y, Y, Y, Y, Z] rfl rfl HT_ ?_
       refine puA (i := 7) (N := some 14) #[Y, Y, Y, Y, Y, Y, Y, Y] rfl rfl HT_ ?_
       refine done_ (done_of HT_.out (by kernel_rfl)) ?_
       try go_wp2_with (first | ((with_reducible refine gate_callee (f := 10) rfl ?_); refine goesL_ (some 60) rfl rfl Try.func10 (by kernel_rfl) rfl #[.int .i64 t136, .int .i64 q2] rfl hA ?_; (with_reducible refine (spec_l01Gcd.calls k t136 q2 t141 _ A15.out).mono ?_); rintro e w59 ⟨rfl, hb⟩; refine ⟨_, rfl, ?_⟩; have n0_ := Aside0.mk (Kd.R_below (rA HO133) hb); have n1_ := kB BK126 hb; have n2_ := kB BK127 hb; have n3_ := kB BK128 hb; have n4_ := kB BK129 hb; have n5_ := kB BK130 hb; have n6_ := lB hb; clear HO133; clear BK126; clear BK127; clear BK128; clear BK129; clear BK130; clear HB; have HO133 := n0_; have BK126 := n1_; have BK127 := n2_; have BK128 := n3_; have BK129 := n4_; have BK130 := n5_; have HB := n6_; clear n0_ n1_ n2_ n3_ n4_ n5_ n6_; (try clear hb); (try clear hb2); (try clear hk); (try clear hi)))
       have n0_ := Aside0.mk (Kd.R_drew HO133.out)
       have n1_ := Aside0.mk (blk_drew BK126.out)
       have n2_ := Aside0.mk (blk_drew BK127.out)
       have n3_ := Aside0.mk (blk_drew BK128.out)
       have n4_ := Aside0.mk (blk_drew BK129.out)
       have n5_ := Aside0.mk (blk_drew BK130.out)
       have n6_ := Aside0.mk (below_drew1 HB.out)
       clear HO133
       clear BK126
       clear BK127
       clear BK128
       clear BK129
       clear BK130
       clear HB
       have HO133 := n0_
       have BK126 := n1_
       have BK127 := n2_
       have BK128 := n3_
       have BK129 := n4_
       have BK130 := n5_
       have HB := n6_
       clear n0_ n1_ n2_ n3_ n4_ n5_ n6_
       refine start_ (n := 8) (S := fun w' => True) (ds := []) #[Z, Z, Z, Z, Z, Z, Z, Z] (by kernel_rfl) rfl rfl trivial (fun hHeld => ?_); refine with_tabW spec_CrossRatio.tab10 spec_CrossRatio.bits10 (fun HT_ HW_ => ?_)
       generalize w59.drew = w60 at HO133 BK126 BK127 BK128 BK129 BK130 HB hHeld ⊢
       refine puA (i := 0) (N := some 61) #[Y, Z, Z, Z, Z, Z, Z, Z] rfl rfl HT_ ?_
       refine puA (i := 1) (N := some 62) #[Y, Y, Z, Z, Z, Z, Z, Z] rfl rfl HT_ ?_
       refine puA (i := 2) (N := some 63) #[Y, Y, Y, Z, Z, Z, Z, Z] rfl rfl HT_ ?_
       refine puA (i := 3) (N := some 64) #[Y, Y, Y, Y, Z, Z, Z, Z] rfl rfl HT_ ?_
       refine puA (i := 4) (N := some 65) #[Y, Y, Y, Y, Y, Z, Z, Z] rfl rfl HT_ ?_
       refine puA (i := 5) (N := some 66) #[Y, Y, Y, Y, Y, Y, Z, Z] rfl rfl HT_ ?_
       refine puA (i := 6) (N := some 12) #[Y, Y, Y, Y, Y, Y, Y, Z] rfl rfl HT_ ?_
       refine puA (i := 7) (N := some 13) #[Y, Y, Y, Y, Y, Y, Y, Y] rfl rfl HT_ ?_
       refine done_ (done_of HT_.out (by kernel_rfl)) ?_
       try go_wp2_with (first | ((with_reducible refine gate_callee (f := 10) rfl ?_); refine goesL_ (some 69) rfl rfl Try.func10 (by kernel_rfl) rfl #[.int .i64 q5, .int .i64 q4] rfl hA ?_; (with_reducible refine (spec_l01Gcd.calls k q5 q4 t142 _ A17.out).mono ?_); rintro e w61 ⟨rfl, hb⟩; refine ⟨_, rfl, ?_⟩; have n0_ := Aside0.mk (Kd.R_below (rA HO133) hb); have n1_ := kB BK126 hb; have n2_ := kB BK127 hb; have n3_ := kB BK128 hb; have n4_ := kB BK129 hb; have n5_ := kB BK130 hb; have n6_ := lB hb; clear HO133; clear BK126; clear BK127; clear BK128; clear BK129; clear BK130; clear HB; have HO133 := n0_; have BK126 := n1_; have BK127 := n2_; have BK128 := n3_; have BK129 := n4_; have BK130 := n5_; have HB := n6_; clear n0_ n1_ n2_ n3_ n4_ n5_ n6_; (try clear hb); (try clear hb2); (try clear hk); (try clear hi)))
       have n0_ := Aside0.mk (Kd.R_drew HO133.out)
       have n1_ := Aside0.mk (blk_drew BK126.out)
       have n2_ := Aside0.mk (blk_drew BK127.out)
       have n3_ := Aside0.mk (blk_drew BK128.out)
       have n4_ := Aside0.mk (blk_drew BK129.out)
       have n5_ := Aside0.mk (blk_drew BK130.out)
       have n6_ := Aside0.mk (below_drew1 HB.out)
       clear HO133
       clear BK126
       clear BK127
       clear BK128
       clear BK129
       clear BK130
       clear HB
       have HO133 := n0_
       have BK126 := n1_
       have BK127 := n2_
       have BK128 := n3_
       have BK129 := n4_
       have BK130 := n5_
       have HB := n6_
       clear n0_ n1_ n2_ n3_ n4_ n5_ n6_
       refine start_ (n := 8) (S := fun w' => True) (ds := []) #[Z, Z, Z, Z, Z, Z, Z, Z] (by kernel_rfl) rfl rfl trivial (fun hHeld => ?_); refine with_tabW spec_CrossRatio.tab12 spec_CrossRatio.bits12 (fun HT_ HW_ => ?_)
       generalize w61.drew = w62 at HO133 BK126 BK127 BK128 BK129 BK130 HB hHeld ⊢
       refine puA (i := 0) (N := some 70) #[Y, Z, Z, Z, Z, Z, Z, Z] rfl rfl HT_ ?_
       refine puA (i := 1) (N := some 71) #[Y, Y, Z, Z, Z, Z, Z, Z] rfl rfl HT_ ?_
       refine puA (i := 2) (N := some 72) #[Y, Y, Y, Z, Z, Z, Z, Z] rfl rfl HT_ ?_
       refine puA (i := 3) (N := some 73) #[Y, Y, Y, Y, Z, Z, Z, Z] rfl rfl HT_ ?_
       refine puA (i := 4) (N := some 74) #[Y, Y, Y, Y, Y, Z, Z, Z] rfl rfl HT_ ?_
       refine puA (i := 5) (N := some 75) #[Y, Y, Y, Y, Y, Y, Z, Z] rfl rfl HT_ ?_
       refine puA (i := 6) (N := some 12) #[Y, Y, Y, Y, Y, Y, Y, Z] rfl rfl HT_ ?_
       refine puA (i := 7) (N := some 14) #[Y, Y, Y, Y, Y, Y, Y, Y] rfl rfl HT_ ?_
       refine done_ (done_of HT_.out (by kernel_rfl)) ?_
       obtain ⟨hcz63_0, hcz63_1, hfz63_0, hfz63_1⟩ := cz2 BK130
       try go_wp2
       refine bodyPost_ret (results_ct rfl _ _ gb130 24 #[.int .i64 0, .int .i64 0] (0, 0) _ rfl (by refine dr ?_; refine blk_put (cs := #[.int .i64 0, .int .i64 0]) ?_ 1 _ rfl; refine dr ?_; refine blk_put (cs := #[.int .i64 0, .int .i64 0]) ?_ 0 _ rfl; exact bkA BK130) Try.underlying24 rfl (by kernel_rfl)) rfl ?_
       exact ⟨by first | rfl | (simp [errW_none, errW_some] <;> rfl) | (simp only [← hji19, ← hji20, ← hji21, ← hji22, ← hji23, ← hji24, ← hji25]; first | rfl | (simp [errW_none, errW_some] <;> rfl)) | (simp [*, errW_none, errW_some] <;> rfl), blA⟩
      ·
       rw [if_neg c26] at H
       have c26b0 : decide (1000000 < (ji25)) = false := decide_eq_false c26
       clear c26
       replace H := bS H
       obtain ⟨⟨t143, t144, t145⟩, A64, H⟩ := H
       try dsimp only at H
       by_cases c65 : t145 = true
       ·
        subst c65
        rw [if_pos rfl] at H
        try dsimp only at H
        simp only [Option.some.injEq, Prod.mk.injEq] at H
        obtain ⟨rfl, rfl, rfl⟩ := H
        go_enter Try.func4, Try.ntmps4
        try go_wp2_with (first | ((with_reducible refine gate_dst (N := 4) rfl ?_); refine box_event ?hg (N := 4) ?hd (cs := #[.int .i64 a0_0, .int .i64 a0_1]) (t := 24) ?hr ?_; (case hd => rfl); (case hg => rfl); (case hr => first | (go_simp; done) | (go_simp; rfl)); intro gb126 hg w66 hbox hb; have n0_ := lB hb; have n1_ := Aside0.mk (hbox); have n2_ := sA hg; have n3_ := sA hg; clear HB; have HB := n0_; have BK126 := n1_; have GW126 := n2_; have GE126 := n3_; clear n0_ n1_ n2_ n3_; clear hb hbox hg) | ((with_reducible refine gate_dst (N := 5) rfl ?_); refine box_event ?hg (N := 5) ?hd (cs := #[.int .i64 a1_0, .int .i64 a1_1]) (t := 24) ?hr ?_; (case hd => rfl); (case hg => rfl); (case hr => first | (go_simp; done) | (go_simp; rfl)); intro gb127 hg w67 hbox hb; have n0_ := kB BK126 hb; have n1_ := lB hb; have n2_ := Aside0.mk (hbox); have n3_ := sA hg; have n4_ := sA hg; have n5_ := nA hg BK126; have n6_ := nB hg BK126; clear BK126; clear HB; have BK126 := n0_; have HB := n1_; have BK127 := n2_; have GW127 := n3_; have GE127 := n4_; have NB126_127 := n5_; have NB127_126 := n6_; clear n0_ n1_ n2_ n3_ n4_ n5_ n6_; clear hb hbox hg) | ((with_reducible refine gate_dst (N := 6) rfl ?_); refine box_event ?hg (N := 6) ?hd (cs := #[.int .i64 a2_0, .int .i64 a2_1]) (t := 24) ?hr ?_; (case hd => rfl); (case hg => rfl); (case hr => first | (go_simp; done) | (go_simp; rfl)); intro gb128 hg w68 hbox hb; have n0_ := kB BK126 hb; have n1_ := kB BK127 hb; have n2_ := lB hb; have n3_ := Aside0.mk (hbox); have n4_ := sA hg; have n5_ := sA hg; have n6_ := nA hg BK126; have n7_ := nB hg BK126; have n8_ := nA hg BK127; have n9_ := nB hg BK127; clear BK126; clear BK127; clear HB; have BK126 := n0_; have BK127 := n1_; have HB := n2_; have BK128 := n3_; have GW128 := n4_; have GE128 := n5_; have NB126_128 := n6_; have NB128_126 := n7_; have NB127_128 := n8_; have NB128_127 := n9_; clear n0_ n1_ n2_ n3_ n4_ n5_ n6_ n7_ n8_ n9_; clear hb hbox hg) | ((with_reducible refine gate_dst (N := 7) rfl ?_); refine box_event ?hg (N := 7) ?hd (cs := #[.int .i64 a3_0, .int .i64 a3_1]) (t := 24) ?hr ?_; (case hd => rfl); (case hg => rfl); (case hr => first | (go_simp; done) | (go_simp; rfl)); intro gb129 hg w69 hbox hb; have n0_ := kB BK126 hb; have n1_ := kB BK127 hb; have n2_ := kB BK128 hb; have n3_ := lB hb; have n4_ := Aside0.mk (hbox); have n5_ := sA hg; have n6_ := sA hg; have n7_ := nA hg BK126; have n8_ := nB hg BK126; have n9_ := nA hg BK127; have n10_ := nB hg BK127; have n11_ := nA hg BK128; have n12_ := nB hg BK128; clear BK126; clear BK127; clear BK128; clear HB; have BK126 := n0_; have BK127 := n1_; have BK128 := n2_; have HB := n3_; have BK129 := n4_; have GW129 := n5_; have GE129 := n6_; have NB126_129 := n7_; have NB129_126 := n8_; have NB127_129 := n9_; have NB129_127 := n10_; have NB128_129 := n11_; have NB129_128 := n12_; clear n0_ n1_ n2_ n3_ n4_ n5_ n6_ n7_ n8_ n9_ n10_ n11_ n12_; clear hb hbox hg) | ((with_reducible refine gate_dst (N := 8) rfl ?_); refine box_event ?hg (N := 8) ?hd (cs := #[.int .i64 0, .int .i64 0]) (t := 24) ?hr ?_; (case hd => rfl); (case hg => rfl); (case hr => first | (go_simp; done) | (go_simp; rfl)); intro gb130 hg w70 hbox hb; have n0_ := kB BK126 hb; have n1_ := kB BK127 hb; have n2_ := kB BK128 hb; have n3_ := kB BK129 hb; have n4_ := lB hb; have n5_ := Aside0.mk (hbox); have n6_ := sA hg; have n7_ := sA hg; have n8_ := nA hg BK126; have n9_ := nB hg BK126; have n10_ := nA hg BK127; have n11_ := nB hg BK127; have n12_ := nA hg BK128; have n13_ := nB hg BK128; have n14_ := nA hg BK129; have n15_ := nB hg BK129; clear BK126; clear BK127; clear BK128; clear BK129; clear HB; have BK126 := n0_; have BK127 := n1_; have BK128 := n2_; have BK129 := n3_; have HB := n4_; have BK130 := n5_; have GW130 := n6_; have GE130 := n7_; have NB126_130 := n8_; have NB130_126 := n9_; have NB127_130 := n10_; have NB130_127 := n11_; have NB128_130 := n12_; have NB130_128 := n13_; have NB129_130 := n14_; have NB130_129 := n15_; clear n0_ n1_ n2_ n3_ n4_ n5_ n6_ n7_ n8_ n9_ n10_ n11_ n12_ n13_ n14_ n15_; clear hb hbox hg; have hnb71 := NB126_127.out; have hnc71 := NB127_126.out; have hnb72 := NB126_128.out; have hnc72 := NB128_126.out; have hnb73 := NB126_129.out; have hnc73 := NB129_126.out; have hnb74 := NB126_130.out; have hnc74 := NB130_126.out; obtain ⟨hcz75_0, hcz75_1, hfz75_0, hfz75_1⟩ := cz2 BK126; have hnb76 := NB127_128.out; have hnc76 := NB128_127.out; have hnb77 := NB127_129.out; have hnc77 := NB129_127.out; have hnb78 := NB127_130.out; have hnc78 := NB130_127.out; obtain ⟨hcz79_0, hcz79_1, hfz79_0, hfz79_1⟩ := cz2 BK127; have hnb80 := NB128_129.out; have hnc80 := NB129_128.out; have hnb81 := NB128_130.out; have hnc81 := NB130_128.out; obtain ⟨hcz82_0, hcz82_1, hfz82_0, hfz82_1⟩ := cz2 BK128; have hnb83 := NB129_130.out; have hnc83 := NB130_129.out; obtain ⟨hcz84_0, hcz84_1, hfz84_0, hfz84_1⟩ := cz2 BK129) | ((with_reducible refine gate_dst (N := 22) rfl ?_); refine Kd.R_lit k24 _ 24 ?hg (N := 22) ?hd (xs := ([(⟨a0_0, a0_1⟩ : S24), (⟨a1_0, a1_1⟩ : S24), (⟨a2_0, a2_1⟩ : S24), (⟨a3_0, a3_1⟩ : S24)] : List (S24))) (inner := [.int .i64 a0_0, .int .i64 a0_1, .int .i64 a1_0, .int .i64 a1_1, .int .i64 a2_0, .int .i64 a2_1, .int .i64 a3_0, .int .i64 a3_1]) (ok := fun _ => True) (okp := fun _ => True) ?hr ?hp (fun _ hk => hk) trivial (Below.refl _ _) (Nat.le_refl _) (by simp) ?_; (case hd => rfl); (case hg => rfl); (case hr => first | (go_simp; done) | (go_simp; rfl)); (case hp => exact (Reps.c2 (show Kd.M k24 _ _ _ (⟨a0_0, a0_1⟩ : S24) [.int .i64 a0_0, .int .i64 a0_1] from (k24_mkM _ _ _ (⟨a0_0, a0_1⟩ : S24) )) (Reps.c2 (show Kd.M k24 _ _ _ (⟨a1_0, a1_1⟩ : S24) [.int .i64 a1_0, .int .i64 a1_1] from (k24_mkM _ _ _ (⟨a1_0, a1_1⟩ : S24) )) (Reps.c2 (show Kd.M k24 _ _ _ (⟨a2_0, a2_1⟩ : S24) [.int .i64 a2_0, .int .i64 a2_1] from (k24_mkM _ _ _ (⟨a2_0, a2_1⟩ : S24) )) (Reps.c2 (show Kd.M k24 _ _ _ (⟨a3_0, a3_1⟩ : S24) [.int .i64 a3_0, .int .i64 a3_1] from (k24_mkM _ _ _ (⟨a3_0, a3_1⟩ : S24) )) (Reps.none _ _)))))); intro v132 w85 ho86 hb hg_ hnew_; clear hg_ hnew_; (first | rw [← Ny131.out] at ho86 | (simp only [Int.reduceToNat] at ho86; rw [← Ny131.out] at ho86)); have n0_ := Aside0.mk (Kd.R_lower (Kd.R_newB (Kd.R_newB (Kd.R_newB (Kd.R_newB (Kd.R_newB ho86 (bkA BK126)) (bkA BK127)) (bkA BK128)) (bkA BK129)) (bkA BK130)) (below_size blA)); have n1_ := kB BK126 hb; have n2_ := kB BK127 hb; have n3_ := kB BK128 hb; have n4_ := kB BK129 hb; have n5_ := kB BK130 hb; have n6_ := lB hb; clear BK126; clear BK127; clear BK128; clear BK129; clear BK130; clear HB; have HO133 := n0_; have BK126 := n1_; have BK127 := n2_; have BK128 := n3_; have BK129 := n4_; have BK130 := n5_; have HB := n6_; clear n0_ n1_ n2_ n3_ n4_ n5_ n6_; clear hb ho86; obtain ⟨Ao87, co87, eo87⟩ := Kd.R_slice HO133.out; subst eo87) | ((with_reducible refine gate_callee (f := 8) rfl ?_); refine goesL_ (some 23) rfl rfl Try.func8 (by kernel_rfl) rfl #[.int .i64 2, .slice none 0 0, .slice Ao87 y131.length co87] rfl hA ?_; (refine (spec_l05Code.calls k 2 _ _ ([] : List (S47)) _ _ y131 t134 _ ?side1 ?side2 ?side3 ?side4 A5.out).mono ?_); (case side1 => exact Kd.C_nil _ _); (case side2 => exact Nat.le_refl _); (case side3 => repeat (first | exact (Kd.R_reads' HO133.out).2.2 | (with_reducible refine Kd.C_alloc ?_ _) | (with_reducible refine Kd.C_drewN ?_ _) | (with_reducible refine Kd.C_drew ?_))); (case side4 => exact (Kd.R_reads' HO133.out).2.1); rintro e w88 ⟨rfl, hb⟩; refine ⟨_, rfl, ?_⟩; have n0_ := Aside0.mk (Kd.R_below (rA HO133) hb); have n1_ := kB BK126 hb; have n2_ := kB BK127 hb; have n3_ := kB BK128 hb; have n4_ := kB BK129 hb; have n5_ := kB BK130 hb; have n6_ := lB hb; clear HO133; clear BK126; clear BK127; clear BK128; clear BK129; clear BK130; clear HB; have HO133 := n0_; have BK126 := n1_; have BK127 := n2_; have BK128 := n3_; have BK129 := n4_; have BK130 := n5_; have HB := n6_; clear n0_ n1_ n2_ n3_ n4_ n5_ n6_; (try clear hb); (try clear hb2); (try clear hk); (try clear hi)))
        have n0_ := Aside0.mk (Kd.R_drew HO133.out)
        have n1_ := Aside0.mk (blk_drew BK126.out)
        have n2_ := Aside0.mk (blk_drew BK127.out)
        have n3_ := Aside0.mk (blk_drew BK128.out)
        have n4_ := Aside0.mk (blk_drew BK129.out)
        have n5_ := Aside0.mk (blk_drew BK130.out)
        have n6_ := Aside0.mk (below_drew1 HB.out)
        clear HO133
        clear BK126
        clear BK127
        clear BK128
        clear BK129
        clear BK130
        clear HB
        have HO133 := n0_
        have BK126 := n1_
        have BK127 := n2_
        have BK128 := n3_
        have BK129 := n4_
        have BK130 := n5_
        have HB := n6_
        clear n0_ n1_ n2_ n3_ n4_ n5_ n6_
        refine start_ (n := 16) (S := fun w' => w'.cell? ⟨gb126, 0, none⟩ = some (.int .i64 a0_0) ∧ w'.cell? ⟨gb126, 1, none⟩ = some (.int .i64 a0_1) ∧ w'.cell? ⟨gb128, 0, none⟩ = some (.int .i64 a2_0) ∧ w'.cell? ⟨gb128, 1, none⟩ = some (.int .i64 a2_1) ∧ w'.cell? ⟨gb127, 0, none⟩ = some (.int .i64 a1_0) ∧ w'.cell? ⟨gb127, 1, none⟩ = some (.int .i64 a1_1) ∧ w'.cell? ⟨gb129, 0, none⟩ = some (.int .i64 a3_0) ∧ w'.cell? ⟨gb129, 1, none⟩ = some (.int .i64 a3_1)) (ds := []) #[Z, Z, Z, Z, Z, Z, Z, Z, Z, Z, Z, Z, Z, Z, Z, Z] (by kernel_rfl) rfl rfl ⟨cA BK126 0, cA BK126 1, cA BK128 0, cA BK128 1, cA BK127 0, cA BK127 1, cA BK129 0, cA BK129 1⟩ (fun hHeld => ?_); refine with_tabW spec_CrossRatio.tab4 spec_CrossRatio.bits4 (fun HT_ HW_ => ?_)
        generalize w88.drew = w89 at HO133 BK126 BK127 BK128 BK129 BK130 HB hHeld ⊢
        refine take_ (i := 0) (N := some 28) (v := ?_) (a' := ?_) #[Y, Z, Z, Z, Z, Z, Z, Z, Z, Z, Z, Z, Z, Z, Z, Z] rfl rfl (take_ofW HT_.out HW_.out (by kernel_rfl)) (fun _ _ _ h => h) (Or.inl ⟨by rfl, ?_⟩) hHeld ?_ ?_
        rotate_left
        ·
         rintro w' ⟨s0, s1, s2, s3, s4, s5, s6, s7⟩
         go_simp
         with_reducible rfl
        rotate_left
        ·
         simp only [pA]
         rfl
        refine take_ (i := 1) (N := some 29) (v := ?_) (a' := ?_) #[Y, Y, Z, Z, Z, Z, Z, Z, Z, Z, Z, Z, Z, Z, Z, Z] rfl rfl (take_ofW HT_.out HW_.out (by kernel_rfl)) (fun _ _ _ h => h) (Or.inl ⟨by rfl, ?_⟩) hHeld ?_ ?_
        rotate_left
        ·
         rintro w' ⟨s0, s1, s2, s3, s4, s5, s6, s7⟩
         go_simp
         with_reducible rfl
        rotate_left
        ·
         simp only [pA]
         rfl
        refine take_ (i := 3) (N := some 31) (v := ?_) (a' := ?_) #[Y, Y, Z, Y, Z, Z, Z, Z, Z, Z, Z, Z, Z, Z, Z, Z] rfl rfl (take_ofW HT_.out HW_.out (by kernel_rfl)) (fun _ _ _ h => h) (Or.inl ⟨by rfl, ?_⟩) hHeld ?_ ?_
        rotate_left
        ·
         rintro w' ⟨s0, s1, s2, s3, s4, s5, s6, s7⟩
         go_simp
         with_reducible rfl
        rotate_left
        ·
         simp only [pA]
         rfl
        refine take_ (i := 4) (N := some 32) (v := ?_) (a' := ?_) #[Y, Y, Z, Y, Y, Z, Z, Z, Z, Z, Z, Z, Z, Z, Z, Z] rfl rfl (take_ofW HT_.out HW_.out (by kernel_rfl)) (fun _ _ _ h => h) (Or.inl ⟨by rfl, ?_⟩) hHeld ?_ ?_
        rotate_left
        ·
         rintro w' ⟨s0, s1, s2, s3, s4, s5, s6, s7⟩
         go_simp
         with_reducible rfl
        rotate_left
        ·
         simp only [pA]
         rfl
        refine take_ (i := 6) (N := some 34) (v := ?_) (a' := ?_) #[Y, Y, Z, Y, Y, Z, Y, Z, Z, Z, Z, Z, Z, Z, Z, Z] rfl rfl (take_ofW HT_.out HW_.out (by kernel_rfl)) (fun _ _ _ h => h) (Or.inl ⟨by rfl, ?_⟩) hHeld ?_ ?_
        rotate_left
        ·
         rintro w' ⟨s0, s1, s2, s3, s4, s5, s6, s7⟩
         go_simp
         with_reducible rfl
        rotate_left
        ·
         simp only [pA]
         rfl
        refine take_ (i := 7) (N := some 35) (v := ?_) (a' := ?_) #[Y, Y, Z, Y, Y, Z, Y, Y, Z, Z, Z, Z, Z, Z, Z, Z] rfl rfl (take_ofW HT_.out HW_.out (by kernel_rfl)) (fun _ _ _ h => h) (Or.inl ⟨by rfl, ?_⟩) hHeld ?_ ?_
        rotate_left
        ·
         rintro w' ⟨s0, s1, s2, s3, s4, s5, s6, s7⟩
         go_simp
         with_reducible rfl
        rotate_left
        ·
         simp only [pA]
         rfl
        refine take_ (i := 9) (N := some 37) (v := ?_) (a' := ?_) #[Y, Y, Z, Y, Y, Z, Y, Y, Z, Y, Z, Z, Z, Z, Z, Z] rfl rfl (take_ofW HT_.out HW_.out (by kernel_rfl)) (fun _ _ _ h => h) (Or.inl ⟨by rfl, ?_⟩) hHeld ?_ ?_
        rotate_left
        ·
         rintro w' ⟨s0, s1, s2, s3, s4, s5, s6, s7⟩
         go_simp
         with_reducible rfl
        rotate_left
        ·
         simp only [pA]
         rfl
        refine take_ (i := 10) (N := some 38) (v := ?_) (a' := ?_) #[Y, Y, Z, Y, Y, Z, Y, Y, Z, Y, Y, Z, Z, Z, Z, Z] rfl rfl (take_ofW HT_.out HW_.out (by kernel_rfl)) (fun _ _ _ h => h) (Or.inl ⟨by rfl, ?_⟩) hHeld ?_ ?_
        rotate_left
        ·
         rintro w' ⟨s0, s1, s2, s3, s4, s5, s6, s7⟩
         go_simp
         with_reducible rfl
        rotate_left
        ·
         simp only [pA]
         rfl
        refine one_ (i := 2) (N := some 30) #[Y, Y, Y, Y, Y, Z, Y, Y, Z, Y, Y, Z, Z, Z, Z, Z] rfl rfl (one_of HT_.out (by kernel_rfl)) (by decide) (fun K hK => ?_)
        refine goes_ Try.func9 (by kernel_rfl) rfl #[.agg #[.int .i64 a0_0, .int .i64 a0_1], .agg #[.int .i64 a2_0, .int .i64 a2_1]] (by rfl) rfl rfl hA ?_
        with_reducible refine (spec_l05Cross.calls a0_0 a0_1 a2_0 a2_1 t135 _ A7.out).mono ?_
        rintro e w90 ⟨rfl, hb⟩
        refine ⟨_, rfl, ?_⟩
        replace HO133 := Aside0.mk (Kd.R_below (rA HO133) hb)
        replace BK126 := kB BK126 hb
        replace BK127 := kB BK127 hb
        replace BK128 := kB BK128 hb
        replace BK129 := kB BK129 hb
        replace BK130 := kB BK130 hb
        replace HB := lB hb
        (try clear hb)
        (try clear hb2)
        (try clear hk)
        (try clear hi)
        refine hK.out _ _ ⟨cA BK126 0, cA BK126 1, cA BK128 0, cA BK128 1, cA BK127 0, cA BK127 1, cA BK129 0, cA BK129 1⟩ (fun hHeld => ?_)
        clear hK K
        refine norm_ (a' := ?_) ?_ ?_
        rotate_left
        ·
         show Act.put _ (some 30) _ = _
         simp only [pA]
         rfl
        refine one_ (i := 5) (N := some 33) #[Y, Y, Y, Y, Y, Y, Y, Y, Z, Y, Y, Z, Z, Z, Z, Z] rfl rfl (one_of HT_.out (by kernel_rfl)) (by decide) (fun K hK => ?_)
        refine goes_ Try.func9 (by kernel_rfl) rfl #[.agg #[.int .i64 a1_0, .int .i64 a1_1], .agg #[.int .i64 a3_0, .int .i64 a3_1]] (by rfl) rfl rfl hA ?_
        with_reducible refine (spec_l05Cross.calls a1_0 a1_1 a3_0 a3_1 t136 _ A8.out).mono ?_
        rintro e w91 ⟨rfl, hb⟩
        refine ⟨_, rfl, ?_⟩
        replace HO133 := Aside0.mk (Kd.R_below (rA HO133) hb)
        replace BK126 := kB BK126 hb
        replace BK127 := kB BK127 hb
        replace BK128 := kB BK128 hb
        replace BK129 := kB BK129 hb
        replace BK130 := kB BK130 hb
        replace HB := lB hb
        (try clear hb)
        (try clear hb2)
        (try clear hk)
        (try clear hi)
        refine hK.out _ _ ⟨cA BK126 0, cA BK126 1, cA BK128 0, cA BK128 1, cA BK127 0, cA BK127 1, cA BK129 0, cA BK129 1⟩ (fun hHeld => ?_)
        clear hK K
        refine norm_ (a' := ?_) ?_ ?_
        rotate_left
        ·
         show Act.put _ (some 33) _ = _
         simp only [pA]
         rfl
        refine one_ (i := 8) (N := some 36) #[Y, Y, Y, Y, Y, Y, Y, Y, Y, Y, Y, Z, Z, Z, Z, Z] rfl rfl (one_of HT_.out (by kernel_rfl)) (by decide) (fun K hK => ?_)
        refine goes_ Try.func9 (by kernel_rfl) rfl #[.agg #[.int .i64 a0_0, .int .i64 a0_1], .agg #[.int .i64 a3_0, .int .i64 a3_1]] (by rfl) rfl rfl hA ?_
        with_reducible refine (spec_l05Cross.calls a0_0 a0_1 a3_0 a3_1 t137 _ A9.out).mono ?_
        rintro e w92 ⟨rfl, hb⟩
        refine ⟨_, rfl, ?_⟩
        replace HO133 := Aside0.mk (Kd.R_below (rA HO133) hb)
        replace BK126 := kB BK126 hb
        replace BK127 := kB BK127 hb
        replace BK128 := kB BK128 hb
        replace BK129 := kB BK129 hb
        replace BK130 := kB BK130 hb
        replace HB := lB hb
        (try clear hb)
        (try clear hb2)
        (try clear hk)
        (try clear hi)
        refine hK.out _ _ ⟨cA BK126 0, cA BK126 1, cA BK128 0, cA BK128 1, cA BK127 0, cA BK127 1, cA BK129 0, cA BK129 1⟩ (fun hHeld => ?_)
        clear hK K
        refine norm_ (a' := ?_) ?_ ?_
        rotate_left
        ·
         show Act.put _ (some 36) _ = _
         simp only [pA]
         rfl
        refine one_ (i := 11) (N := some 39) #[Y, Y, Y, Y, Y, Y, Y, Y, Y, Y, Y, Y, Z, Z, Z, Z] rfl rfl (one_of HT_.out (by kernel_rfl)) (by decide) (fun K hK => ?_)
        refine goes_ Try.func9 (by kernel_rfl) rfl #[.agg #[.int .i64 a1_0, .int .i64 a1_1], .agg #[.int .i64 a2_0, .int .i64 a2_1]] (by rfl) rfl rfl hA ?_
        with_reducible refine (spec_l05Cross.calls a1_0 a1_1 a2_0 a2_1 t138 _ A10.out).mono ?_
        rintro e w93 ⟨rfl, hb⟩
        refine ⟨_, rfl, ?_⟩
        replace HO133 := Aside0.mk (Kd.R_below (rA HO133) hb)
        replace BK126 := kB BK126 hb
        replace BK127 := kB BK127 hb
        replace BK128 := kB BK128 hb
        replace BK129 := kB BK129 hb
        replace BK130 := kB BK130 hb
        replace HB := lB hb
        (try clear hb)
        (try clear hb2)
        (try clear hk)
        (try clear hi)
        refine hK.out _ _ ⟨cA BK126 0, cA BK126 1, cA BK128 0, cA BK128 1, cA BK127 0, cA BK127 1, cA BK129 0, cA BK129 1⟩ (fun hHeld => ?_)
        clear hK K
        refine norm_ (a' := ?_) ?_ ?_
        rotate_left
        ·
         show Act.put _ (some 39) _ = _
         simp only [pA]
         rfl
        refine puA (i := 12) (N := some 11) #[Y, Y, Y, Y, Y, Y, Y, Y, Y, Y, Y, Y, Y, Z, Z, Z] rfl rfl HT_ ?_
        refine puA (i := 13) (N := some 12) #[Y, Y, Y, Y, Y, Y, Y, Y, Y, Y, Y, Y, Y, Y, Z, Z] rfl rfl HT_ ?_
        refine puA (i := 14) (N := some 13) #[Y, Y, Y, Y, Y, Y, Y, Y, Y, Y, Y, Y, Y, Y, Y, Z] rfl rfl HT_ ?_
        refine puA (i := 15) (N := some 14) #[Y, Y, Y, Y, Y, Y, Y, Y, Y, Y, Y, Y, Y, Y, Y, Y] rfl rfl HT_ ?_
        refine done_ (done_of HT_.out (by kernel_rfl)) ?_
        try go_wp2_with (first | ((with_reducible refine gate_callee (f := 10) rfl ?_); refine goesL_ (some 42) rfl rfl Try.func10 (by kernel_rfl) rfl #[.int .i64 t135, .int .i64 t137] rfl hA ?_; (with_reducible refine (spec_l01Gcd.calls k t135 t137 t139 _ A11.out).mono ?_); rintro e w94 ⟨rfl, hb⟩; refine ⟨_, rfl, ?_⟩; have n0_ := Aside0.mk (Kd.R_below (rA HO133) hb); have n1_ := kB BK126 hb; have n2_ := kB BK127 hb; have n3_ := kB BK128 hb; have n4_ := kB BK129 hb; have n5_ := kB BK130 hb; have n6_ := lB hb; clear HO133; clear BK126; clear BK127; clear BK128; clear BK129; clear BK130; clear HB; have HO133 := n0_; have BK126 := n1_; have BK127 := n2_; have BK128 := n3_; have BK129 := n4_; have BK130 := n5_; have HB := n6_; clear n0_ n1_ n2_ n3_ n4_ n5_ n6_; (try clear hb); (try clear hb2); (try clear hk); (try clear hi)))
        have n0_ := Aside0.mk (Kd.R_drew HO133.out)
        have n1_ := Aside0.mk (blk_drew BK126.out)
        have n2_ := Aside0.mk (blk_drew BK127.out)
        have n3_ := Aside0.mk (blk_drew BK128.out)
        have n4_ := Aside0.mk (blk_drew BK129.out)
        have n5_ := Aside0.mk (blk_drew BK130.out)
        have n6_ := Aside0.mk (below_drew1 HB.out)
        clear HO133
        clear BK126
        clear BK127
        clear BK128
        clear BK129
        clear BK130
        clear HB
        have HO133 := n0_
        have BK126 := n1_
        have BK127 := n2_
        have BK128 := n3_
        have BK129 := n4_
        have BK130 := n5_
        have HB := n6_
        clear n0_ n1_ n2_ n3_ n4_ n5_ n6_
        refine start_ (n := 8) (S := fun w' => True) (ds := []) #[Z, Z, Z, Z, Z, Z, Z, Z] (by kernel_rfl) rfl rfl trivial (fun hHeld => ?_); refine with_tabW spec_CrossRatio.tab6 spec_CrossRatio.bits6 (fun HT_ HW_ => ?_)
        generalize w94.drew = w95 at HO133 BK126 BK127 BK128 BK129 BK130 HB hHeld ⊢
        refine puA (i := 0) (N := some 43) #[Y, Z, Z, Z, Z, Z, Z, Z] rfl rfl HT_ ?_
        refine puA (i := 1) (N := some 44) #[Y, Y, Z, Z, Z, Z, Z, Z] rfl rfl HT_ ?_
        refine puA (i := 2) (N := some 45) #[Y, Y, Y, Z, Z, Z, Z, Z] rfl rfl HT_ ?_
        refine puA (i := 3) (N := some 46) #[Y, Y, Y, Y, Z, Z, Z, Z] rfl rfl HT_ ?_
        refine puA (i := 4) (N := some 47) #[Y, Y, Y, Y, Y, Z, Z, Z] rfl rfl HT_ ?_
        refine puA (i := 5) (N := some 48) #[Y, Y, Y, Y, Y, Y, Z, Z] rfl rfl HT_ ?_
        refine puA (i := 6) (N := some 11) #[Y, Y, Y, Y, Y, Y, Y, Z] rfl rfl HT_ ?_
        refine puA (i := 7) (N := some 13) #[Y, Y, Y, Y, Y, Y, Y, Y] rfl rfl HT_ ?_
        refine done_ (done_of HT_.out (by kernel_rfl)) ?_
        try go_wp2_with (first | ((with_reducible refine gate_callee (f := 10) rfl ?_); refine goesL_ (some 51) rfl rfl Try.func10 (by kernel_rfl) rfl #[.int .i64 q1, .int .i64 t138] rfl hA ?_; (with_reducible refine (spec_l01Gcd.calls k q1 t138 t140 _ A13.out).mono ?_); rintro e w96 ⟨rfl, hb⟩; refine ⟨_, rfl, ?_⟩; have n0_ := Aside0.mk (Kd.R_below (rA HO133) hb); have n1_ := kB BK126 hb; have n2_ := kB BK127 hb; have n3_ := kB BK128 hb; have n4_ := kB BK129 hb; have n5_ := kB BK130 hb; have n6_ := lB hb; clear HO133; clear BK126; clear BK127; clear BK128; clear BK129; clear BK130; clear HB; have HO133 := n0_; have BK126 := n1_; have BK127 := n2_; have BK128 := n3_; have BK129 := n4_; have BK130 := n5_; have HB := n6_; clear n0_ n1_ n2_ n3_ n4_ n5_ n6_; (try clear hb); (try clear hb2); (try clear hk); (try clear hi)))
        have n0_ := Aside0.mk (Kd.R_drew HO133.out)
        have n1_ := Aside0.mk (blk_drew BK126.out)
        have n2_ := Aside0.mk (blk_drew BK127.out)
        have n3_ := Aside0.mk (blk_drew BK128.out)
        have n4_ := Aside0.mk (blk_drew BK129.out)
        have n5_ := Aside0.mk (blk_drew BK130.out)
        have n6_ := Aside0.mk (below_drew1 HB.out)
        clear HO133
        clear BK126
        clear BK127
        clear BK128
        clear BK129
        clear BK130
        clear HB
        have HO133 := n0_
        have BK126 := n1_
        have BK127 := n2_
        have BK128 := n3_
        have BK129 := n4_
        have BK130 := n5_
        have HB := n6_
        clear n0_ n1_ n2_ n3_ n4_ n5_ n6_
        refine start_ (n := 8) (S := fun w' => True) (ds := []) #[Z, Z, Z, Z, Z, Z, Z, Z] (by kernel_rfl) rfl rfl trivial (fun hHeld => ?_); refine with_tabW spec_CrossRatio.tab8 spec_CrossRatio.bits8 (fun HT_ HW_ => ?_)
        generalize w96.drew = w97 at HO133 BK126 BK127 BK128 BK129 BK130 HB hHeld ⊢
        refine puA (i := 0) (N := some 52) #[Y, Z, Z, Z, Z, Z, Z, Z] rfl rfl HT_ ?_
        refine puA (i := 1) (N := some 53) #[Y, Y, Z, Z, Z, Z, Z, Z] rfl rfl HT_ ?_
        refine puA (i := 2) (N := some 54) #[Y, Y, Y, Z, Z, Z, Z, Z] rfl rfl HT_ ?_
        refine puA (i := 3) (N := some 55) #[Y, Y, Y, Y, Z, Z, Z, Z] rfl rfl HT_ ?_
        refine puA (i := 4) (N := some 56) #[Y, Y, Y, Y, Y, Z, Z, Z] rfl rfl HT_ ?_
        refine puA (i := 5) (N := some 57) #[Y, Y, Y, Y, Y, Y, Z, Z] rfl rfl HT_ ?_
        refine puA (i := 6) (N := some 11) #[Y, Y, Y, Y, Y, Y, Y, Z] rfl rfl HT_ ?_
        refine puA (i := 7) (N := some 14) #[Y, Y, Y, Y, Y, Y, Y, Y] rfl rfl HT_ ?_
        refine done_ (done_of HT_.out (by kernel_rfl)) ?_
        try go_wp2_with (first | ((with_reducible refine gate_callee (f := 10) rfl ?_); refine goesL_ (some 60) rfl rfl Try.func10 (by kernel_rfl) rfl #[.int .i64 t136, .int .i64 q2] rfl hA ?_; (with_reducible refine (spec_l01Gcd.calls k t136 q2 t141 _ A15.out).mono ?_); rintro e w98 ⟨rfl, hb⟩; refine ⟨_, rfl, ?_⟩; have n0_ := Aside0.mk (Kd.R_below (rA HO133) hb); have n1_ := kB BK126 hb; have n2_ := kB BK127 hb; have n3_ := kB BK128 hb; have n4_ := kB BK129 hb; have n5_ := kB BK130 hb; have n6_ := lB hb; clear HO133; clear BK126; clear BK127; clear BK128; clear BK129; clear BK130; clear HB; have HO133 := n0_; have BK126 := n1_; have BK127 := n2_; have BK128 := n3_; have BK129 := n4_; have BK130 := n5_; have HB := n6_; clear n0_ n1_ n2_ n3_ n4_ n5_ n6_; (try clear hb); (try clear hb2); (try clear hk); (try clear hi)))
        have n0_ := Aside0.mk (Kd.R_drew HO133.out)
        have n1_ := Aside0.mk (blk_drew BK126.out)
        have n2_ := Aside0.mk (blk_drew BK127.out)
        have n3_ := Aside0.mk (blk_drew BK128.out)
        have n4_ := Aside0.mk (blk_drew BK129.out)
        have n5_ := Aside0.mk (blk_drew BK130.out)
        have n6_ := Aside0.mk (below_drew1 HB.out)
        clear HO133
        clear BK126
        clear BK127
        clear BK128
        clear BK129
        clear BK130
        clear HB
        have HO133 := n0_
        have BK126 := n1_
        have BK127 := n2_
        have BK128 := n3_
        have BK129 := n4_
        have BK130 := n5_
        have HB := n6_
        clear n0_ n1_ n2_ n3_ n4_ n5_ n6_
        refine start_ (n := 8) (S := fun w' => True) (ds := []) #[Z, Z, Z, Z, Z, Z, Z, Z] (by kernel_rfl) rfl rfl trivial (fun hHeld => ?_); refine with_tabW spec_CrossRatio.tab10 spec_CrossRatio.bits10 (fun HT_ HW_ => ?_)
        generalize w98.drew = w99 at HO133 BK126 BK127 BK128 BK129 BK130 HB hHeld ⊢
        refine puA (i := 0) (N := some 61) #[Y, Z, Z, Z, Z, Z, Z, Z] rfl rfl HT_ ?_
        refine puA (i := 1) (N := some 62) #[Y, Y, Z, Z, Z, Z, Z, Z] rfl rfl HT_ ?_
        refine puA (i := 2) (N := some 63) #[Y, Y, Y, Z, Z, Z, Z, Z] rfl rfl HT_ ?_
        refine puA (i := 3) (N := some 64) #[Y, Y, Y, Y, Z, Z, Z, Z] rfl rfl HT_ ?_
        refine puA (i := 4) (N := some 65) #[Y, Y, Y, Y, Y, Z, Z, Z] rfl rfl HT_ ?_
        refine puA (i := 5) (N := some 66) #[Y, Y, Y, Y, Y, Y, Z, Z] rfl rfl HT_ ?_
        refine puA (i := 6) (N := some 12) #[Y, Y, Y, Y, Y, Y, Y, Z] rfl rfl HT_ ?_
        refine puA (i := 7) (N := some 13) #[Y, Y, Y, Y, Y, Y, Y, Y] rfl rfl HT_ ?_
        refine done_ (done_of HT_.out (by kernel_rfl)) ?_
        try go_wp2_with (first | ((with_reducible refine gate_callee (f := 10) rfl ?_); refine goesL_ (some 69) rfl rfl Try.func10 (by kernel_rfl) rfl #[.int .i64 q5, .int .i64 q4] rfl hA ?_; (with_reducible refine (spec_l01Gcd.calls k q5 q4 t142 _ A17.out).mono ?_); rintro e w100 ⟨rfl, hb⟩; refine ⟨_, rfl, ?_⟩; have n0_ := Aside0.mk (Kd.R_below (rA HO133) hb); have n1_ := kB BK126 hb; have n2_ := kB BK127 hb; have n3_ := kB BK128 hb; have n4_ := kB BK129 hb; have n5_ := kB BK130 hb; have n6_ := lB hb; clear HO133; clear BK126; clear BK127; clear BK128; clear BK129; clear BK130; clear HB; have HO133 := n0_; have BK126 := n1_; have BK127 := n2_; have BK128 := n3_; have BK129 := n4_; have BK130 := n5_; have HB := n6_; clear n0_ n1_ n2_ n3_ n4_ n5_ n6_; (try clear hb); (try clear hb2); (try clear hk); (try clear hi)))
        have n0_ := Aside0.mk (Kd.R_drew HO133.out)
        have n1_ := Aside0.mk (blk_drew BK126.out)
        have n2_ := Aside0.mk (blk_drew BK127.out)
        have n3_ := Aside0.mk (blk_drew BK128.out)
        have n4_ := Aside0.mk (blk_drew BK129.out)
        have n5_ := Aside0.mk (blk_drew BK130.out)
        have n6_ := Aside0.mk (below_drew1 HB.out)
        clear HO133
        clear BK126
        clear BK127
        clear BK128
        clear BK129
        clear BK130
        clear HB
        have HO133 := n0_
        have BK126 := n1_
        have BK127 := n2_
        have BK128 := n3_
        have BK129 := n4_
        have BK130 := n5_
        have HB := n6_
        clear n0_ n1_ n2_ n3_ n4_ n5_ n6_
        refine start_ (n := 8) (S := fun w' => True) (ds := []) #[Z, Z, Z, Z, Z, Z, Z, Z] (by kernel_rfl) rfl rfl trivial (fun hHeld => ?_); refine with_tabW spec_CrossRatio.tab12 spec_CrossRatio.bits12 (fun HT_ HW_ => ?_)
        generalize w100.drew = w101 at HO133 BK126 BK127 BK128 BK129 BK130 HB hHeld ⊢
        refine puA (i := 0) (N := some 70) #[Y, Z, Z, Z, Z, Z, Z, Z] rfl rfl HT_ ?_
        refine puA (i := 1) (N := some 71) #[Y, Y, Z, Z, Z, Z, Z, Z] rfl rfl HT_ ?_
        refine puA (i := 2) (N := some 72) #[Y, Y, Y, Z, Z, Z, Z, Z] rfl rfl HT_ ?_
        refine puA (i := 3) (N := some 73) #[Y, Y, Y, Y, Z, Z, Z, Z] rfl rfl HT_ ?_
        refine puA (i := 4) (N := some 74) #[Y, Y, Y, Y, Y, Z, Z, Z] rfl rfl HT_ ?_
        refine puA (i := 5) (N := some 75) #[Y, Y, Y, Y, Y, Y, Z, Z] rfl rfl HT_ ?_
        refine puA (i := 6) (N := some 12) #[Y, Y, Y, Y, Y, Y, Y, Z] rfl rfl HT_ ?_
        refine puA (i := 7) (N := some 14) #[Y, Y, Y, Y, Y, Y, Y, Y] rfl rfl HT_ ?_
        refine done_ (done_of HT_.out (by kernel_rfl)) ?_
        try go_wp2_with (first | ((with_reducible refine gate_callee (f := 11) rfl ?_); refine goesL_ (some 98) rfl rfl Try.func11 (by kernel_rfl) rfl #[.int .i64 (wrap64 (q3 * q7)), .int .i64 (wrap64 (q6 * q8))] rfl hA ?_; (with_reducible refine (spec_l01EndOf.calls k (wrap64 (q3 * q7)) (wrap64 (q6 * q8)) t143 t144 true _ A64.out).mono ?_); rintro e w102 ⟨rfl, hb⟩; refine ⟨_, rfl, ?_⟩; have n0_ := Aside0.mk (Kd.R_below (rA HO133) hb); have n1_ := kB BK126 hb; have n2_ := kB BK127 hb; have n3_ := kB BK128 hb; have n4_ := kB BK129 hb; have n5_ := kB BK130 hb; have n6_ := lB hb; clear HO133; clear BK126; clear BK127; clear BK128; clear BK129; clear BK130; clear HB; have HO133 := n0_; have BK126 := n1_; have BK127 := n2_; have BK128 := n3_; have BK129 := n4_; have BK130 := n5_; have HB := n6_; clear n0_ n1_ n2_ n3_ n4_ n5_ n6_; (try clear hb); (try clear hb2); (try clear hk); (try clear hi)) | ((with_reducible refine gate_dst (N := 16) rfl ?_); refine box_event ?hg (N := 16) ?hd (cs := #[.int .i64 0, .int .i64 0]) (t := 24) ?hr ?_; (case hd => rfl); (case hg => rfl); (case hr => first | (go_simp; done) | (go_simp; rfl)); intro gb146 hg w103 hbox hb; have n0_ := Aside0.mk (Kd.R_below (Kd.R_elderB (rA HO133) gb146 (Nat.le_of_eq hg.symm)) hb); have n1_ := kB BK126 hb; have n2_ := kB BK127 hb; have n3_ := kB BK128 hb; have n4_ := kB BK129 hb; have n5_ := kB BK130 hb; have n6_ := lB hb; have n7_ := Aside0.mk (hbox); have n8_ := sA hg; have n9_ := sA hg; have n10_ := nA hg BK126; have n11_ := nB hg BK126; have n12_ := nA hg BK127; have n13_ := nB hg BK127; have n14_ := nA hg BK128; have n15_ := nB hg BK128; have n16_ := nA hg BK129; have n17_ := nB hg BK129; have n18_ := nA hg BK130; have n19_ := nB hg BK130; clear HO133; clear BK126; clear BK127; clear BK128; clear BK129; clear BK130; clear HB; have HO133 := n0_; have BK126 := n1_; have BK127 := n2_; have BK128 := n3_; have BK129 := n4_; have BK130 := n5_; have HB := n6_; have BK146 := n7_; have GW146 := n8_; have GE146 := n9_; have NB126_146 := n10_; have NB146_126 := n11_; have NB127_146 := n12_; have NB146_127 := n13_; have NB128_146 := n14_; have NB146_128 := n15_; have NB129_146 := n16_; have NB146_129 := n17_; have NB130_146 := n18_; have NB146_130 := n19_; clear n0_ n1_ n2_ n3_ n4_ n5_ n6_ n7_ n8_ n9_ n10_ n11_ n12_ n13_ n14_ n15_ n16_ n17_ n18_ n19_; clear hb hbox hg; have hnb104 := NB146_126.out; have hnc104 := NB126_146.out; have hnb105 := NB146_127.out; have hnc105 := NB127_146.out; have hnb106 := NB146_128.out; have hnc106 := NB128_146.out; have hnb107 := NB146_129.out; have hnc107 := NB129_146.out; have hnb108 := NB146_130.out; have hnc108 := NB130_146.out; obtain ⟨hcz109_0, hcz109_1, hfz109_0, hfz109_1⟩ := cz2 BK146; obtain ⟨hcz110_0, hcz110_1, hfz110_0, hfz110_1⟩ := cz2 BK130))
        refine bodyPost_ret (results_ct rfl _ _ gb130 24 #[.int .i64 t143, .int .i64 t144] (0, 0) _ rfl (by refine dr ?_; refine blk_put (cs := #[.int .i64 t143, .int .i64 0]) ?_ 1 _ rfl; refine dr ?_; refine blk_put (cs := #[.int .i64 0, .int .i64 0]) ?_ 0 _ rfl; refine dr ?_; refine blk_far ?_ NB130_146.out _; refine dr ?_; refine blk_far ?_ NB130_146.out _; exact bkA BK130) Try.underlying24 rfl (by kernel_rfl)) rfl ?_
        exact ⟨by first | rfl | (simp [errW_none, errW_some] <;> rfl) | (simp only [← hji19, ← hji20, ← hji21, ← hji22, ← hji23, ← hji24, ← hji25]; first | rfl | (simp [errW_none, errW_some] <;> rfl)) | (simp [*, errW_none, errW_some] <;> rfl), blA⟩
       ·
        replace c65 := Bool.eq_false_iff.mpr c65
        subst c65
        rw [if_neg (show ¬ (false = true) by decide)] at H
        try dsimp only at H
        simp only [Option.some.injEq, Prod.mk.injEq] at H
        obtain ⟨rfl, rfl, rfl⟩ := H
        go_enter Try.func4, Try.ntmps4
        try go_wp2_with (first | ((with_reducible refine gate_dst (N := 4) rfl ?_); refine box_event ?hg (N := 4) ?hd (cs := #[.int .i64 a0_0, .int .i64 a0_1]) (t := 24) ?hr ?_; (case hd => rfl); (case hg => rfl); (case hr => first | (go_simp; done) | (go_simp; rfl)); intro gb126 hg w111 hbox hb; have n0_ := lB hb; have n1_ := Aside0.mk (hbox); have n2_ := sA hg; have n3_ := sA hg; clear HB; have HB := n0_; have BK126 := n1_; have GW126 := n2_; have GE126 := n3_; clear n0_ n1_ n2_ n3_; clear hb hbox hg) | ((with_reducible refine gate_dst (N := 5) rfl ?_); refine box_event ?hg (N := 5) ?hd (cs := #[.int .i64 a1_0, .int .i64 a1_1]) (t := 24) ?hr ?_; (case hd => rfl); (case hg => rfl); (case hr => first | (go_simp; done) | (go_simp; rfl)); intro gb127 hg w112 hbox hb; have n0_ := kB BK126 hb; have n1_ := lB hb; have n2_ := Aside0.mk (hbox); have n3_ := sA hg; have n4_ := sA hg; have n5_ := nA hg BK126; have n6_ := nB hg BK126; clear BK126; clear HB; have BK126 := n0_; have HB := n1_; have BK127 := n2_; have GW127 := n3_; have GE127 := n4_; have NB126_127 := n5_; have NB127_126 := n6_; clear n0_ n1_ n2_ n3_ n4_ n5_ n6_; clear hb hbox hg) | ((with_reducible refine gate_dst (N := 6) rfl ?_); refine box_event ?hg (N := 6) ?hd (cs := #[.int .i64 a2_0, .int .i64 a2_1]) (t := 24) ?hr ?_; (case hd => rfl); (case hg => rfl); (case hr => first | (go_simp; done) | (go_simp; rfl)); intro gb128 hg w113 hbox hb; have n0_ := kB BK126 hb; have n1_ := kB BK127 hb; have n2_ := lB hb; have n3_ := Aside0.mk (hbox); have n4_ := sA hg; have n5_ := sA hg; have n6_ := nA hg BK126; have n7_ := nB hg BK126; have n8_ := nA hg BK127; have n9_ := nB hg BK127; clear BK126; clear BK127; clear HB; have BK126 := n0_; have BK127 := n1_; have HB := n2_; have BK128 := n3_; have GW128 := n4_; have GE128 := n5_; have NB126_128 := n6_; have NB128_126 := n7_; have NB127_128 := n8_; have NB128_127 := n9_; clear n0_ n1_ n2_ n3_ n4_ n5_ n6_ n7_ n8_ n9_; clear hb hbox hg) | ((with_reducible refine gate_dst (N := 7) rfl ?_); refine box_event ?hg (N := 7) ?hd (cs := #[.int .i64 a3_0, .int .i64 a3_1]) (t := 24) ?hr ?_; (case hd => rfl); (case hg => rfl); (case hr => first | (go_simp; done) | (go_simp; rfl)); intro gb129 hg w114 hbox hb; have n0_ := kB BK126 hb; have n1_ := kB BK127 hb; have n2_ := kB BK128 hb; have n3_ := lB hb; have n4_ := Aside0.mk (hbox); have n5_ := sA hg; have n6_ := sA hg; have n7_ := nA hg BK126; have n8_ := nB hg BK126; have n9_ := nA hg BK127; have n10_ := nB hg BK127; have n11_ := nA hg BK128; have n12_ := nB hg BK128; clear BK126; clear BK127; clear BK128; clear HB; have BK126 := n0_; have BK127 := n1_; have BK128 := n2_; have HB := n3_; have BK129 := n4_; have GW129 := n5_; have GE129 := n6_; have NB126_129 := n7_; have NB129_126 := n8_; have NB127_129 := n9_; have NB129_127 := n10_; have NB128_129 := n11_; have NB129_128 := n12_; clear n0_ n1_ n2_ n3_ n4_ n5_ n6_ n7_ n8_ n9_ n10_ n11_ n12_; clear hb hbox hg) | ((with_reducible refine gate_dst (N := 8) rfl ?_); refine box_event ?hg (N := 8) ?hd (cs := #[.int .i64 0, .int .i64 0]) (t := 24) ?hr ?_; (case hd => rfl); (case hg => rfl); (case hr => first | (go_simp; done) | (go_simp; rfl)); intro gb130 hg w115 hbox hb; have n0_ := kB BK126 hb; have n1_ := kB BK127 hb; have n2_ := kB BK128 hb; have n3_ := kB BK129 hb; have n4_ := lB hb; have n5_ := Aside0.mk (hbox); have n6_ := sA hg; have n7_ := sA hg; have n8_ := nA hg BK126; have n9_ := nB hg BK126; have n10_ := nA hg BK127; have n11_ := nB hg BK127; have n12_ := nA hg BK128; have n13_ := nB hg BK128; have n14_ := nA hg BK129; have n15_ := nB hg BK129; clear BK126; clear BK127; clear BK128; clear BK129; clear HB; have BK126 := n0_; have BK127 := n1_; have BK128 := n2_; have BK129 := n3_; have HB := n4_; have BK130 := n5_; have GW130 := n6_; have GE130 := n7_; have NB126_130 := n8_; have NB130_126 := n9_; have NB127_130 := n10_; have NB130_127 := n11_; have NB128_130 := n12_; have NB130_128 := n13_; have NB129_130 := n14_; have NB130_129 := n15_; clear n0_ n1_ n2_ n3_ n4_ n5_ n6_ n7_ n8_ n9_ n10_ n11_ n12_ n13_ n14_ n15_; clear hb hbox hg; have hnb116 := NB126_127.out; have hnc116 := NB127_126.out; have hnb117 := NB126_128.out; have hnc117 := NB128_126.out; have hnb118 := NB126_129.out; have hnc118 := NB129_126.out; have hnb119 := NB126_130.out; have hnc119 := NB130_126.out; obtain ⟨hcz120_0, hcz120_1, hfz120_0, hfz120_1⟩ := cz2 BK126; have hnb121 := NB127_128.out; have hnc121 := NB128_127.out; have hnb122 := NB127_129.out; have hnc122 := NB129_127.out; have hnb123 := NB127_130.out; have hnc123 := NB130_127.out; obtain ⟨hcz124_0, hcz124_1, hfz124_0, hfz124_1⟩ := cz2 BK127; have hnb125 := NB128_129.out; have hnc125 := NB129_128.out; have hnb126 := NB128_130.out; have hnc126 := NB130_128.out; obtain ⟨hcz127_0, hcz127_1, hfz127_0, hfz127_1⟩ := cz2 BK128; have hnb128 := NB129_130.out; have hnc128 := NB130_129.out; obtain ⟨hcz129_0, hcz129_1, hfz129_0, hfz129_1⟩ := cz2 BK129) | ((with_reducible refine gate_dst (N := 22) rfl ?_); refine Kd.R_lit k24 _ 24 ?hg (N := 22) ?hd (xs := ([(⟨a0_0, a0_1⟩ : S24), (⟨a1_0, a1_1⟩ : S24), (⟨a2_0, a2_1⟩ : S24), (⟨a3_0, a3_1⟩ : S24)] : List (S24))) (inner := [.int .i64 a0_0, .int .i64 a0_1, .int .i64 a1_0, .int .i64 a1_1, .int .i64 a2_0, .int .i64 a2_1, .int .i64 a3_0, .int .i64 a3_1]) (ok := fun _ => True) (okp := fun _ => True) ?hr ?hp (fun _ hk => hk) trivial (Below.refl _ _) (Nat.le_refl _) (by simp) ?_; (case hd => rfl); (case hg => rfl); (case hr => first | (go_simp; done) | (go_simp; rfl)); (case hp => exact (Reps.c2 (show Kd.M k24 _ _ _ (⟨a0_0, a0_1⟩ : S24) [.int .i64 a0_0, .int .i64 a0_1] from (k24_mkM _ _ _ (⟨a0_0, a0_1⟩ : S24) )) (Reps.c2 (show Kd.M k24 _ _ _ (⟨a1_0, a1_1⟩ : S24) [.int .i64 a1_0, .int .i64 a1_1] from (k24_mkM _ _ _ (⟨a1_0, a1_1⟩ : S24) )) (Reps.c2 (show Kd.M k24 _ _ _ (⟨a2_0, a2_1⟩ : S24) [.int .i64 a2_0, .int .i64 a2_1] from (k24_mkM _ _ _ (⟨a2_0, a2_1⟩ : S24) )) (Reps.c2 (show Kd.M k24 _ _ _ (⟨a3_0, a3_1⟩ : S24) [.int .i64 a3_0, .int .i64 a3_1] from (k24_mkM _ _ _ (⟨a3_0, a3_1⟩ : S24) )) (Reps.none _ _)))))); intro v132 w130 ho131 hb hg_ hnew_; clear hg_ hnew_; (first | rw [← Ny131.out] at ho131 | (simp only [Int.reduceToNat] at ho131; rw [← Ny131.out] at ho131)); have n0_ := Aside0.mk (Kd.R_lower (Kd.R_newB (Kd.R_newB (Kd.R_newB (Kd.R_newB (Kd.R_newB ho131 (bkA BK126)) (bkA BK127)) (bkA BK128)) (bkA BK129)) (bkA BK130)) (below_size blA)); have n1_ := kB BK126 hb; have n2_ := kB BK127 hb; have n3_ := kB BK128 hb; have n4_ := kB BK129 hb; have n5_ := kB BK130 hb; have n6_ := lB hb; clear BK126; clear BK127; clear BK128; clear BK129; clear BK130; clear HB; have HO133 := n0_; have BK126 := n1_; have BK127 := n2_; have BK128 := n3_; have BK129 := n4_; have BK130 := n5_; have HB := n6_; clear n0_ n1_ n2_ n3_ n4_ n5_ n6_; clear hb ho131; obtain ⟨Ao132, co132, eo132⟩ := Kd.R_slice HO133.out; subst eo132) | ((with_reducible refine gate_callee (f := 8) rfl ?_); refine goesL_ (some 23) rfl rfl Try.func8 (by kernel_rfl) rfl #[.int .i64 2, .slice none 0 0, .slice Ao132 y131.length co132] rfl hA ?_; (refine (spec_l05Code.calls k 2 _ _ ([] : List (S47)) _ _ y131 t134 _ ?side1 ?side2 ?side3 ?side4 A5.out).mono ?_); (case side1 => exact Kd.C_nil _ _); (case side2 => exact Nat.le_refl _); (case side3 => repeat (first | exact (Kd.R_reads' HO133.out).2.2 | (with_reducible refine Kd.C_alloc ?_ _) | (with_reducible refine Kd.C_drewN ?_ _) | (with_reducible refine Kd.C_drew ?_))); (case side4 => exact (Kd.R_reads' HO133.out).2.1); rintro e w133 ⟨rfl, hb⟩; refine ⟨_, rfl, ?_⟩; have n0_ := Aside0.mk (Kd.R_below (rA HO133) hb); have n1_ := kB BK126 hb; have n2_ := kB BK127 hb; have n3_ := kB BK128 hb; have n4_ := kB BK129 hb; have n5_ := kB BK130 hb; have n6_ := lB hb; clear HO133; clear BK126; clear BK127; clear BK128; clear BK129; clear BK130; clear HB; have HO133 := n0_; have BK126 := n1_; have BK127 := n2_; have BK128 := n3_; have BK129 := n4_; have BK130 := n5_; have HB := n6_; clear n0_ n1_ n2_ n3_ n4_ n5_ n6_; (try clear hb); (try clear hb2); (try clear hk); (try clear hi)))
        have n0_ := Aside0.mk (Kd.R_drew HO133.out)
        have n1_ := Aside0.mk (blk_drew BK126.out)
        have n2_ := Aside0.mk (blk_drew BK127.out)
        have n3_ := Aside0.mk (blk_drew BK128.out)
        have n4_ := Aside0.mk (blk_drew BK129.out)
        have n5_ := Aside0.mk (blk_drew BK130.out)
        have n6_ := Aside0.mk (below_drew1 HB.out)
        clear HO133
        clear BK126
        clear BK127
        clear BK128
        clear BK129
        clear BK130
        clear HB
        have HO133 := n0_
        have BK126 := n1_
        have BK127 := n2_
        have BK128 := n3_
        have BK129 := n4_
        have BK130 := n5_
        have HB := n6_
        clear n0_ n1_ n2_ n3_ n4_ n5_ n6_
        refine start_ (n := 16) (S := fun w' => w'.cell? ⟨gb126, 0, none⟩ = some (.int .i64 a0_0) ∧ w'.cell? ⟨gb126, 1, none⟩ = some (.int .i64 a0_1) ∧ w'.cell? ⟨gb128, 0, none⟩ = some (.int .i64 a2_0) ∧ w'.cell? ⟨gb128, 1, none⟩ = some (.int .i64 a2_1) ∧ w'.cell? ⟨gb127, 0, none⟩ = some (.int .i64 a1_0) ∧ w'.cell? ⟨gb127, 1, none⟩ = some (.int .i64 a1_1) ∧ w'.cell? ⟨gb129, 0, none⟩ = some (.int .i64 a3_0) ∧ w'.cell? ⟨gb129, 1, none⟩ = some (.int .i64 a3_1)) (ds := []) #[Z, Z, Z, Z, Z, Z, Z, Z, Z, Z, Z, Z, Z, Z, Z, Z] (by kernel_rfl) rfl rfl ⟨cA BK126 0, cA BK126 1, cA BK128 0, cA BK128 1, cA BK127 0, cA BK127 1, cA BK129 0, cA BK129 1⟩ (fun hHeld => ?_); refine with_tabW spec_CrossRatio.tab4 spec_CrossRatio.bits4 (fun HT_ HW_ => ?_)
        generalize w133.drew = w134 at HO133 BK126 BK127 BK128 BK129 BK130 HB hHeld ⊢
        refine take_ (i := 0) (N := some 28) (v := ?_) (a' := ?_) #[Y, Z, Z, Z, Z, Z, Z, Z, Z, Z, Z, Z, Z, Z, Z, Z] rfl rfl (take_ofW HT_.out HW_.out (by kernel_rfl)) (fun _ _ _ h => h) (Or.inl ⟨by rfl, ?_⟩) hHeld ?_ ?_
        rotate_left
        ·
         rintro w' ⟨s0, s1, s2, s3, s4, s5, s6, s7⟩
         go_simp
         with_reducible rfl
        rotate_left
        ·
         simp only [pA]
         rfl
        refine take_ (i := 1) (N := some 29) (v := ?_) (a' := ?_) #[Y, Y, Z, Z, Z, Z, Z, Z, Z, Z, Z, Z, Z, Z, Z, Z] rfl rfl (take_ofW HT_.out HW_.out (by kernel_rfl)) (fun _ _ _ h => h) (Or.inl ⟨by rfl, ?_⟩) hHeld ?_ ?_
        rotate_left
        ·
         rintro w' ⟨s0, s1, s2, s3, s4, s5, s6, s7⟩
         go_simp
         with_reducible rfl
        rotate_left
        ·
         simp only [pA]
         rfl
        refine take_ (i := 3) (N := some 31) (v := ?_) (a' := ?_) #[Y, Y, Z, Y, Z, Z, Z, Z, Z, Z, Z, Z, Z, Z, Z, Z] rfl rfl (take_ofW HT_.out HW_.out (by kernel_rfl)) (fun _ _ _ h => h) (Or.inl ⟨by rfl, ?_⟩) hHeld ?_ ?_
        rotate_left
        ·
         rintro w' ⟨s0, s1, s2, s3, s4, s5, s6, s7⟩
         go_simp
         with_reducible rfl
        rotate_left
        ·
         simp only [pA]
         rfl
        refine take_ (i := 4) (N := some 32) (v := ?_) (a' := ?_) #[Y, Y, Z, Y, Y, Z, Z, Z, Z, Z, Z, Z, Z, Z, Z, Z] rfl rfl (take_ofW HT_.out HW_.out (by kernel_rfl)) (fun _ _ _ h => h) (Or.inl ⟨by rfl, ?_⟩) hHeld ?_ ?_
        rotate_left
        ·
         rintro w' ⟨s0, s1, s2, s3, s4, s5, s6, s7⟩
         go_simp
         with_reducible rfl
        rotate_left
        ·
         simp only [pA]
         rfl
        refine take_ (i := 6) (N := some 34) (v := ?_) (a' := ?_) #[Y, Y, Z, Y, Y, Z, Y, Z, Z, Z, Z, Z, Z, Z, Z, Z] rfl rfl (take_ofW HT_.out HW_.out (by kernel_rfl)) (fun _ _ _ h => h) (Or.inl ⟨by rfl, ?_⟩) hHeld ?_ ?_
        rotate_left
        ·
         rintro w' ⟨s0, s1, s2, s3, s4, s5, s6, s7⟩
         go_simp
         with_reducible rfl
        rotate_left
        ·
         simp only [pA]
         rfl
        refine take_ (i := 7) (N := some 35) (v := ?_) (a' := ?_) #[Y, Y, Z, Y, Y, Z, Y, Y, Z, Z, Z, Z, Z, Z, Z, Z] rfl rfl (take_ofW HT_.out HW_.out (by kernel_rfl)) (fun _ _ _ h => h) (Or.inl ⟨by rfl, ?_⟩) hHeld ?_ ?_
        rotate_left
        ·
         rintro w' ⟨s0, s1, s2, s3, s4, s5, s6, s7⟩
         go_simp
         with_reducible rfl
        rotate_left
        ·
         simp only [pA]
         rfl
        refine take_ (i := 9) (N := some 37) (v := ?_) (a' := ?_) #[Y, Y, Z, Y, Y, Z, Y, Y, Z, Y, Z, Z, Z, Z, Z, Z] rfl rfl (take_ofW HT_.out HW_.out (by kernel_rfl)) (fun _ _ _ h => h) (Or.inl ⟨by rfl, ?_⟩) hHeld ?_ ?_
        rotate_left
        ·
         rintro w' ⟨s0, s1, s2, s3, s4, s5, s6, s7⟩
         go_simp
         with_reducible rfl
        rotate_left
        ·
         simp only [pA]
         rfl
        refine take_ (i := 10) (N := some 38) (v := ?_) (a' := ?_) #[Y, Y, Z, Y, Y, Z, Y, Y, Z, Y, Y, Z, Z, Z, Z, Z] rfl rfl (take_ofW HT_.out HW_.out (by kernel_rfl)) (fun _ _ _ h => h) (Or.inl ⟨by rfl, ?_⟩) hHeld ?_ ?_
        rotate_left
        ·
         rintro w' ⟨s0, s1, s2, s3, s4, s5, s6, s7⟩
         go_simp
         with_reducible rfl
        rotate_left
        ·
         simp only [pA]
         rfl
        refine one_ (i := 2) (N := some 30) #[Y, Y, Y, Y, Y, Z, Y, Y, Z, Y, Y, Z, Z, Z, Z, Z] rfl rfl (one_of HT_.out (by kernel_rfl)) (by decide) (fun K hK => ?_)
        refine goes_ Try.func9 (by kernel_rfl) rfl #[.agg #[.int .i64 a0_0, .int .i64 a0_1], .agg #[.int .i64 a2_0, .int .i64 a2_1]] (by rfl) rfl rfl hA ?_
        with_reducible refine (spec_l05Cross.calls a0_0 a0_1 a2_0 a2_1 t135 _ A7.out).mono ?_
        rintro e w135 ⟨rfl, hb⟩
        refine ⟨_, rfl, ?_⟩
        replace HO133 := Aside0.mk (Kd.R_below (rA HO133) hb)
        replace BK126 := kB BK126 hb
        replace BK127 := kB BK127 hb
        replace BK128 := kB BK128 hb
        replace BK129 := kB BK129 hb
        replace BK130 := kB BK130 hb
        replace HB := lB hb
        (try clear hb)
        (try clear hb2)
        (try clear hk)
        (try clear hi)
        refine hK.out _ _ ⟨cA BK126 0, cA BK126 1, cA BK128 0, cA BK128 1, cA BK127 0, cA BK127 1, cA BK129 0, cA BK129 1⟩ (fun hHeld => ?_)
        clear hK K
        refine norm_ (a' := ?_) ?_ ?_
        rotate_left
        ·
         show Act.put _ (some 30) _ = _
         simp only [pA]
         rfl
        refine one_ (i := 5) (N := some 33) #[Y, Y, Y, Y, Y, Y, Y, Y, Z, Y, Y, Z, Z, Z, Z, Z] rfl rfl (one_of HT_.out (by kernel_rfl)) (by decide) (fun K hK => ?_)
        refine goes_ Try.func9 (by kernel_rfl) rfl #[.agg #[.int .i64 a1_0, .int .i64 a1_1], .agg #[.int .i64 a3_0, .int .i64 a3_1]] (by rfl) rfl rfl hA ?_
        with_reducible refine (spec_l05Cross.calls a1_0 a1_1 a3_0 a3_1 t136 _ A8.out).mono ?_
        rintro e w136 ⟨rfl, hb⟩
        refine ⟨_, rfl, ?_⟩
        replace HO133 := Aside0.mk (Kd.R_below (rA HO133) hb)
        replace BK126 := kB BK126 hb
        replace BK127 := kB BK127 hb
        replace BK128 := kB BK128 hb
        replace BK129 := kB BK129 hb
        replace BK130 := kB BK130 hb
        replace HB := lB hb
        (try clear hb)
        (try clear hb2)
        (try clear hk)
        (try clear hi)
        refine hK.out _ _ ⟨cA BK126 0, cA BK126 1, cA BK128 0, cA BK128 1, cA BK127 0, cA BK127 1, cA BK129 0, cA BK129 1⟩ (fun hHeld => ?_)
        clear hK K
        refine norm_ (a' := ?_) ?_ ?_
        rotate_left
        ·
         show Act.put _ (some 33) _ = _
         simp only [pA]
         rfl
        refine one_ (i := 8) (N := some 36) #[Y, Y, Y, Y, Y, Y, Y, Y, Y, Y, Y, Z, Z, Z, Z, Z] rfl rfl (one_of HT_.out (by kernel_rfl)) (by decide) (fun K hK => ?_)
        refine goes_ Try.func9 (by kernel_rfl) rfl #[.agg #[.int .i64 a0_0, .int .i64 a0_1], .agg #[.int .i64 a3_0, .int .i64 a3_1]] (by rfl) rfl rfl hA ?_
        with_reducible refine (spec_l05Cross.calls a0_0 a0_1 a3_0 a3_1 t137 _ A9.out).mono ?_
        rintro e w137 ⟨rfl, hb⟩
        refine ⟨_, rfl, ?_⟩
        replace HO133 := Aside0.mk (Kd.R_below (rA HO133) hb)
        replace BK126 := kB BK126 hb
        replace BK127 := kB BK127 hb
        replace BK128 := kB BK128 hb
        replace BK129 := kB BK129 hb
        replace BK130 := kB BK130 hb
        replace HB := lB hb
        (try clear hb)
        (try clear hb2)
        (try clear hk)
        (try clear hi)
        refine hK.out _ _ ⟨cA BK126 0, cA BK126 1, cA BK128 0, cA BK128 1, cA BK127 0, cA BK127 1, cA BK129 0, cA BK129 1⟩ (fun hHeld => ?_)
        clear hK K
        refine norm_ (a' := ?_) ?_ ?_
        rotate_left
        ·
         show Act.put _ (some 36) _ = _
         simp only [pA]
         rfl
        refine one_ (i := 11) (N := some 39) #[Y, Y, Y, Y, Y, Y, Y, Y, Y, Y, Y, Y, Z, Z, Z, Z] rfl rfl (one_of HT_.out (by kernel_rfl)) (by decide) (fun K hK => ?_)
        refine goes_ Try.func9 (by kernel_rfl) rfl #[.agg #[.int .i64 a1_0, .int .i64 a1_1], .agg #[.int .i64 a2_0, .int .i64 a2_1]] (by rfl) rfl rfl hA ?_
        with_reducible refine (spec_l05Cross.calls a1_0 a1_1 a2_0 a2_1 t138 _ A10.out).mono ?_
        rintro e w138 ⟨rfl, hb⟩
        refine ⟨_, rfl, ?_⟩
        replace HO133 := Aside0.mk (Kd.R_below (rA HO133) hb)
        replace BK126 := kB BK126 hb
        replace BK127 := kB BK127 hb
        replace BK128 := kB BK128 hb
        replace BK129 := kB BK129 hb
        replace BK130 := kB BK130 hb
        replace HB := lB hb
        (try clear hb)
        (try clear hb2)
        (try clear hk)
        (try clear hi)
        refine hK.out _ _ ⟨cA BK126 0, cA BK126 1, cA BK128 0, cA BK128 1, cA BK127 0, cA BK127 1, cA BK129 0, cA BK129 1⟩ (fun hHeld => ?_)
        clear hK K
        refine norm_ (a' := ?_) ?_ ?_
        rotate_left
        ·
         show Act.put _ (some 39) _ = _
         simp only [pA]
         rfl
        refine puA (i := 12) (N := some 11) #[Y, Y, Y, Y, Y, Y, Y, Y, Y, Y, Y, Y, Y, Z, Z, Z] rfl rfl HT_ ?_
        refine puA (i := 13) (N := some 12) #[Y, Y, Y, Y, Y, Y, Y, Y, Y, Y, Y, Y, Y, Y, Z, Z] rfl rfl HT_ ?_
        refine puA (i := 14) (N := some 13) #[Y, Y, Y, Y, Y, Y, Y, Y, Y, Y, Y, Y, Y, Y, Y, Z] rfl rfl HT_ ?_
        refine puA (i := 15) (N := some 14) #[Y, Y, Y, Y, Y, Y, Y, Y, Y, Y, Y, Y, Y, Y, Y, Y] rfl rfl HT_ ?_
        refine done_ (done_of HT_.out (by kernel_rfl)) ?_
        try go_wp2_with (first | ((with_reducible refine gate_callee (f := 10) rfl ?_); refine goesL_ (some 42) rfl rfl Try.func10 (by kernel_rfl) rfl #[.int .i64 t135, .int .i64 t137] rfl hA ?_; (with_reducible refine (spec_l01Gcd.calls k t135 t137 t139 _ A11.out).mono ?_); rintro e w139 ⟨rfl, hb⟩; refine ⟨_, rfl, ?_⟩; have n0_ := Aside0.mk (Kd.R_below (rA HO133) hb); have n1_ := kB BK126 hb; have n2_ := kB BK127 hb; have n3_ := kB BK128 hb; have n4_ := kB BK129 hb; have n5_ := kB BK130 hb; have n6_ := lB hb; clear HO133; clear BK126; clear BK127; clear BK128; clear BK129; clear BK130; clear HB; have HO133 := n0_; have BK126 := n1_; have BK127 := n2_; have BK128 := n3_; have BK129 := n4_; have BK130 := n5_; have HB := n6_; clear n0_ n1_ n2_ n3_ n4_ n5_ n6_; (try clear hb); (try clear hb2); (try clear hk); (try clear hi)))
        have n0_ := Aside0.mk (Kd.R_drew HO133.out)
        have n1_ := Aside0.mk (blk_drew BK126.out)
        have n2_ := Aside0.mk (blk_drew BK127.out)
        have n3_ := Aside0.mk (blk_drew BK128.out)
        have n4_ := Aside0.mk (blk_drew BK129.out)
        have n5_ := Aside0.mk (blk_drew BK130.out)
        have n6_ := Aside0.mk (below_drew1 HB.out)
        clear HO133
        clear BK126
        clear BK127
        clear BK128
        clear BK129
        clear BK130
        clear HB
        have HO133 := n0_
        have BK126 := n1_
        have BK127 := n2_
        have BK128 := n3_
        have BK129 := n4_
        have BK130 := n5_
        have HB := n6_
        clear n0_ n1_ n2_ n3_ n4_ n5_ n6_
        refine start_ (n := 8) (S := fun w' => True) (ds := []) #[Z, Z, Z, Z, Z, Z, Z, Z] (by kernel_rfl) rfl rfl trivial (fun hHeld => ?_); refine with_tabW spec_CrossRatio.tab6 spec_CrossRatio.bits6 (fun HT_ HW_ => ?_)
        generalize w139.drew = w140 at HO133 BK126 BK127 BK128 BK129 BK130 HB hHeld ⊢
        refine puA (i := 0) (N := some 43) #[Y, Z, Z, Z, Z, Z, Z, Z] rfl rfl HT_ ?_
        refine puA (i := 1) (N := some 44) #[Y, Y, Z, Z, Z, Z, Z, Z] rfl rfl HT_ ?_
        refine puA (i := 2) (N := some 45) #[Y, Y, Y, Z, Z, Z, Z, Z] rfl rfl HT_ ?_
        refine puA (i := 3) (N := some 46) #[Y, Y, Y, Y, Z, Z, Z, Z] rfl rfl HT_ ?_
        refine puA (i := 4) (N := some 47) #[Y, Y, Y, Y, Y, Z, Z, Z] rfl rfl HT_ ?_
        refine puA (i := 5) (N := some 48) #[Y, Y, Y, Y, Y, Y, Z, Z] rfl rfl HT_ ?_
        refine puA (i := 6) (N := some 11) #[Y, Y, Y, Y, Y, Y, Y, Z] rfl rfl HT_ ?_
        refine puA (i := 7) (N := some 13) #[Y, Y, Y, Y, Y, Y, Y, Y] rfl rfl HT_ ?_
        refine done_ (done_of HT_.out (by kernel_rfl)) ?_
        try go_wp2_with (first | ((with_reducible refine gate_callee (f := 10) rfl ?_); refine goesL_ (some 51) rfl rfl Try.func10 (by kernel_rfl) rfl #[.int .i64 q1, .int .i64 t138] rfl hA ?_; (with_reducible refine (spec_l01Gcd.calls k q1 t138 t140 _ A13.out).mono ?_); rintro e w141 ⟨rfl, hb⟩; refine ⟨_, rfl, ?_⟩; have n0_ := Aside0.mk (Kd.R_below (rA HO133) hb); have n1_ := kB BK126 hb; have n2_ := kB BK127 hb; have n3_ := kB BK128 hb; have n4_ := kB BK129 hb; have n5_ := kB BK130 hb; have n6_ := lB hb; clear HO133; clear BK126; clear BK127; clear BK128; clear BK129; clear BK130; clear HB; have HO133 := n0_; have BK126 := n1_; have BK127 := n2_; have BK128 := n3_; have BK129 := n4_; have BK130 := n5_; have HB := n6_; clear n0_ n1_ n2_ n3_ n4_ n5_ n6_; (try clear hb); (try clear hb2); (try clear hk); (try clear hi)))
        have n0_ := Aside0.mk (Kd.R_drew HO133.out)
        have n1_ := Aside0.mk (blk_drew BK126.out)
        have n2_ := Aside0.mk (blk_drew BK127.out)
        have n3_ := Aside0.mk (blk_drew BK128.out)
        have n4_ := Aside0.mk (blk_drew BK129.out)
        have n5_ := Aside0.mk (blk_drew BK130.out)
        have n6_ := Aside0.mk (below_drew1 HB.out)
        clear HO133
        clear BK126
        clear BK127
        clear BK128
        clear BK129
        clear BK130
        clear HB
        have HO133 := n0_
        have BK126 := n1_
        have BK127 := n2_
        have BK128 := n3_
        have BK129 := n4_
        have BK130 := n5_
        have HB := n6_
        clear n0_ n1_ n2_ n3_ n4_ n5_ n6_
        refine start_ (n := 8) (S := fun w' => True) (ds := []) #[Z, Z, Z, Z, Z, Z, Z, Z] (by kernel_rfl) rfl rfl trivial (fun hHeld => ?_); refine with_tabW spec_CrossRatio.tab8 spec_CrossRatio.bits8 (fun HT_ HW_ => ?_)
        generalize w141.drew = w142 at HO133 BK126 BK127 BK128 BK129 BK130 HB hHeld ⊢
        refine puA (i := 0) (N := some 52) #[Y, Z, Z, Z, Z, Z, Z, Z] rfl rfl HT_ ?_
        refine puA (i := 1) (N := some 53) #[Y, Y, Z, Z, Z, Z, Z, Z] rfl rfl HT_ ?_
        refine puA (i := 2) (N := some 54) #[Y, Y, Y, Z, Z, Z, Z, Z] rfl rfl HT_ ?_
        refine puA (i := 3) (N := some 55) #[Y, Y, Y, Y, Z, Z, Z, Z] rfl rfl HT_ ?_
        refine puA (i := 4) (N := some 56) #[Y, Y, Y, Y, Y, Z, Z, Z] rfl rfl HT_ ?_
        refine puA (i := 5) (N := some 57) #[Y, Y, Y, Y, Y, Y, Z, Z] rfl rfl HT_ ?_
        refine puA (i := 6) (N := some 11) #[Y, Y, Y, Y, Y, Y, Y, Z] rfl rfl HT_ ?_
        refine puA (i := 7) (N := some 14) #[Y, Y, Y, Y, Y, Y, Y, Y] rfl rfl HT_ ?_
        refine done_ (done_of HT_.out (by kernel_rfl)) ?_
        try go_wp2_with (first | ((with_reducible refine gate_callee (f := 10) rfl ?_); refine goesL_ (some 60) rfl rfl Try.func10 (by kernel_rfl) rfl #[.int .i64 t136, .int .i64 q2] rfl hA ?_; (with_reducible refine (spec_l01Gcd.calls k t136 q2 t141 _ A15.out).mono ?_); rintro e w143 ⟨rfl, hb⟩; refine ⟨_, rfl, ?_⟩; have n0_ := Aside0.mk (Kd.R_below (rA HO133) hb); have n1_ := kB BK126 hb; have n2_ := kB BK127 hb; have n3_ := kB BK128 hb; have n4_ := kB BK129 hb; have n5_ := kB BK130 hb; have n6_ := lB hb; clear HO133; clear BK126; clear BK127; clear BK128; clear BK129; clear BK130; clear HB; have HO133 := n0_; have BK126 := n1_; have BK127 := n2_; have BK128 := n3_; have BK129 := n4_; have BK130 := n5_; have HB := n6_; clear n0_ n1_ n2_ n3_ n4_ n5_ n6_; (try clear hb); (try clear hb2); (try clear hk); (try clear hi)))
        have n0_ := Aside0.mk (Kd.R_drew HO133.out)
        have n1_ := Aside0.mk (blk_drew BK126.out)
        have n2_ := Aside0.mk (blk_drew BK127.out)
        have n3_ := Aside0.mk (blk_drew BK128.out)
        have n4_ := Aside0.mk (blk_drew BK129.out)
        have n5_ := Aside0.mk (blk_drew BK130.out)
        have n6_ := Aside0.mk (below_drew1 HB.out)
        clear HO133
        clear BK126
        clear BK127
        clear BK128
        clear BK129
        clear BK130
        clear HB
        have HO133 := n0_
        have BK126 := n1_
        have BK127 := n2_
        have BK128 := n3_
        have BK129 := n4_
        have BK130 := n5_
        have HB := n6_
        clear n0_ n1_ n2_ n3_ n4_ n5_ n6_
        refine start_ (n := 8) (S := fun w' => True) (ds := []) #[Z, Z, Z, Z, Z, Z, Z, Z] (by kernel_rfl) rfl rfl trivial (fun hHeld => ?_); refine with_tabW spec_CrossRatio.tab10 spec_CrossRatio.bits10 (fun HT_ HW_ => ?_)
        generalize w143.drew = w144 at HO133 BK126 BK127 BK128 BK129 BK130 HB hHeld ⊢
        refine puA (i := 0) (N := some 61) #[Y, Z, Z, Z, Z, Z, Z, Z] rfl rfl HT_ ?_
        refine puA (i := 1) (N := some 62) #[Y, Y, Z, Z, Z, Z, Z, Z] rfl rfl HT_ ?_
        refine puA (i := 2) (N := some 63) #[Y, Y, Y, Z, Z, Z, Z, Z] rfl rfl HT_ ?_
        refine puA (i := 3) (N := some 64) #[Y, Y, Y, Y, Z, Z, Z, Z] rfl rfl HT_ ?_
        refine puA (i := 4) (N := some 65) #[Y, Y, Y, Y, Y, Z, Z, Z] rfl rfl HT_ ?_
        refine puA (i := 5) (N := some 66) #[Y, Y, Y, Y, Y, Y, Z, Z] rfl rfl HT_ ?_
        refine puA (i := 6) (N := some 12) #[Y, Y, Y, Y, Y, Y, Y, Z] rfl rfl HT_ ?_
        refine puA (i := 7) (N := some 13) #[Y, Y, Y, Y, Y, Y, Y, Y] rfl rfl HT_ ?_
        refine done_ (done_of HT_.out (by kernel_rfl)) ?_
        try go_wp2_with (first | ((with_reducible refine gate_callee (f := 10) rfl ?_); refine goesL_ (some 69) rfl rfl Try.func10 (by kernel_rfl) rfl #[.int .i64 q5, .int .i64 q4] rfl hA ?_; (with_reducible refine (spec_l01Gcd.calls k q5 q4 t142 _ A17.out).mono ?_); rintro e w145 ⟨rfl, hb⟩; refine ⟨_, rfl, ?_⟩; have n0_ := Aside0.mk (Kd.R_below (rA HO133) hb); have n1_ := kB BK126 hb; have n2_ := kB BK127 hb; have n3_ := kB BK128 hb; have n4_ := kB BK129 hb; have n5_ := kB BK130 hb; have n6_ := lB hb; clear HO133; clear BK126; clear BK127; clear BK128; clear BK129; clear BK130; clear HB; have HO133 := n0_; have BK126 := n1_; have BK127 := n2_; have BK128 := n3_; have BK129 := n4_; have BK130 := n5_; have HB := n6_; clear n0_ n1_ n2_ n3_ n4_ n5_ n6_; (try clear hb); (try clear hb2); (try clear hk); (try clear hi)))
        have n0_ := Aside0.mk (Kd.R_drew HO133.out)
        have n1_ := Aside0.mk (blk_drew BK126.out)
        have n2_ := Aside0.mk (blk_drew BK127.out)
        have n3_ := Aside0.mk (blk_drew BK128.out)
        have n4_ := Aside0.mk (blk_drew BK129.out)
        have n5_ := Aside0.mk (blk_drew BK130.out)
        have n6_ := Aside0.mk (below_drew1 HB.out)
        clear HO133
        clear BK126
        clear BK127
        clear BK128
        clear BK129
        clear BK130
        clear HB
        have HO133 := n0_
        have BK126 := n1_
        have BK127 := n2_
        have BK128 := n3_
        have BK129 := n4_
        have BK130 := n5_
        have HB := n6_
        clear n0_ n1_ n2_ n3_ n4_ n5_ n6_
        refine start_ (n := 8) (S := fun w' => True) (ds := []) #[Z, Z, Z, Z, Z, Z, Z, Z] (by kernel_rfl) rfl rfl trivial (fun hHeld => ?_); refine with_tabW spec_CrossRatio.tab12 spec_CrossRatio.bits12 (fun HT_ HW_ => ?_)
        generalize w145.drew = w146 at HO133 BK126 BK127 BK128 BK129 BK130 HB hHeld ⊢
        refine puA (i := 0) (N := some 70) #[Y, Z, Z, Z, Z, Z, Z, Z] rfl rfl HT_ ?_
        refine puA (i := 1) (N := some 71) #[Y, Y, Z, Z, Z, Z, Z, Z] rfl rfl HT_ ?_
        refine puA (i := 2) (N := some 72) #[Y, Y, Y, Z, Z, Z, Z, Z] rfl rfl HT_ ?_
        refine puA (i := 3) (N := some 73) #[Y, Y, Y, Y, Z, Z, Z, Z] rfl rfl HT_ ?_
        refine puA (i := 4) (N := some 74) #[Y, Y, Y, Y, Y, Z, Z, Z] rfl rfl HT_ ?_
        refine puA (i := 5) (N := some 75) #[Y, Y, Y, Y, Y, Y, Z, Z] rfl rfl HT_ ?_
        refine puA (i := 6) (N := some 12) #[Y, Y, Y, Y, Y, Y, Y, Z] rfl rfl HT_ ?_
        refine puA (i := 7) (N := some 14) #[Y, Y, Y, Y, Y, Y, Y, Y] rfl rfl HT_ ?_
        refine done_ (done_of HT_.out (by kernel_rfl)) ?_
        try go_wp2_with (first | ((with_reducible refine gate_callee (f := 11) rfl ?_); refine goesL_ (some 98) rfl rfl Try.func11 (by kernel_rfl) rfl #[.int .i64 (wrap64 (q3 * q7)), .int .i64 (wrap64 (q6 * q8))] rfl hA ?_; (with_reducible refine (spec_l01EndOf.calls k (wrap64 (q3 * q7)) (wrap64 (q6 * q8)) t143 t144 false _ A64.out).mono ?_); rintro e w147 ⟨rfl, hb⟩; refine ⟨_, rfl, ?_⟩; have n0_ := Aside0.mk (Kd.R_below (rA HO133) hb); have n1_ := kB BK126 hb; have n2_ := kB BK127 hb; have n3_ := kB BK128 hb; have n4_ := kB BK129 hb; have n5_ := kB BK130 hb; have n6_ := lB hb; clear HO133; clear BK126; clear BK127; clear BK128; clear BK129; clear BK130; clear HB; have HO133 := n0_; have BK126 := n1_; have BK127 := n2_; have BK128 := n3_; have BK129 := n4_; have BK130 := n5_; have HB := n6_; clear n0_ n1_ n2_ n3_ n4_ n5_ n6_; (try clear hb); (try clear hb2); (try clear hk); (try clear hi)) | ((with_reducible refine gate_dst (N := 16) rfl ?_); refine box_event ?hg (N := 16) ?hd (cs := #[.int .i64 0, .int .i64 0]) (t := 24) ?hr ?_; (case hd => rfl); (case hg => rfl); (case hr => first | (go_simp; done) | (go_simp; rfl)); intro gb146 hg w148 hbox hb; have n0_ := Aside0.mk (Kd.R_below (Kd.R_elderB (rA HO133) gb146 (Nat.le_of_eq hg.symm)) hb); have n1_ := kB BK126 hb; have n2_ := kB BK127 hb; have n3_ := kB BK128 hb; have n4_ := kB BK129 hb; have n5_ := kB BK130 hb; have n6_ := lB hb; have n7_ := Aside0.mk (hbox); have n8_ := sA hg; have n9_ := sA hg; have n10_ := nA hg BK126; have n11_ := nB hg BK126; have n12_ := nA hg BK127; have n13_ := nB hg BK127; have n14_ := nA hg BK128; have n15_ := nB hg BK128; have n16_ := nA hg BK129; have n17_ := nB hg BK129; have n18_ := nA hg BK130; have n19_ := nB hg BK130; clear HO133; clear BK126; clear BK127; clear BK128; clear BK129; clear BK130; clear HB; have HO133 := n0_; have BK126 := n1_; have BK127 := n2_; have BK128 := n3_; have BK129 := n4_; have BK130 := n5_; have HB := n6_; have BK146 := n7_; have GW146 := n8_; have GE146 := n9_; have NB126_146 := n10_; have NB146_126 := n11_; have NB127_146 := n12_; have NB146_127 := n13_; have NB128_146 := n14_; have NB146_128 := n15_; have NB129_146 := n16_; have NB146_129 := n17_; have NB130_146 := n18_; have NB146_130 := n19_; clear n0_ n1_ n2_ n3_ n4_ n5_ n6_ n7_ n8_ n9_ n10_ n11_ n12_ n13_ n14_ n15_ n16_ n17_ n18_ n19_; clear hb hbox hg; have hnb149 := NB146_126.out; have hnc149 := NB126_146.out; have hnb150 := NB146_127.out; have hnc150 := NB127_146.out; have hnb151 := NB146_128.out; have hnc151 := NB128_146.out; have hnb152 := NB146_129.out; have hnc152 := NB129_146.out; have hnb153 := NB146_130.out; have hnc153 := NB130_146.out; obtain ⟨hcz154_0, hcz154_1, hfz154_0, hfz154_1⟩ := cz2 BK146; obtain ⟨hcz155_0, hcz155_1, hfz155_0, hfz155_1⟩ := cz2 BK130))
        refine bodyPost_ret (results_ct rfl _ _ gb130 24 #[.int .i64 0, .int .i64 0] (0, 0) _ rfl (by refine dr ?_; refine blk_put (cs := #[.int .i64 0, .int .i64 0]) ?_ 1 _ rfl; refine dr ?_; refine blk_put (cs := #[.int .i64 0, .int .i64 0]) ?_ 0 _ rfl; refine dr ?_; refine blk_far ?_ NB130_146.out _; refine dr ?_; refine blk_far ?_ NB130_146.out _; exact bkA BK130) Try.underlying24 rfl (by kernel_rfl)) rfl ?_
        exact ⟨by first | rfl | (simp [errW_none, errW_some] <;> rfl) | (simp only [← hji19, ← hji20, ← hji21, ← hji22, ← hji23, ← hji24, ← hji25]; first | rfl | (simp [errW_none, errW_some] <;> rfl)) | (simp [*, errW_none, errW_some] <;> rfl), blA⟩
 ·
  rw [if_neg c6] at H
  have c6b0 : (t134 == 0) = false := beq_eq_false_iff_ne.mpr c6
  have c6b1 : (t134 != 0) = true := bne_iff_ne.mpr c6
  simp only [Option.some.injEq, Prod.mk.injEq] at H
  obtain ⟨rfl, rfl, rfl⟩ := H
  go_enter Try.func4, Try.ntmps4
  go_wp2_with (first | ((with_reducible refine gate_dst (N := 4) rfl ?_); refine box_event ?hg (N := 4) ?hd (cs := #[.int .i64 a0_0, .int .i64 a0_1]) (t := 24) ?hr ?_; (case hd => rfl); (case hg => rfl); (case hr => first | (go_simp; done) | (go_simp; rfl)); intro gb126 hg w156 hbox hb; have n0_ := lB hb; have n1_ := Aside0.mk (hbox); have n2_ := sA hg; have n3_ := sA hg; clear HB; have HB := n0_; have BK126 := n1_; have GW126 := n2_; have GE126 := n3_; clear n0_ n1_ n2_ n3_; clear hb hbox hg) | ((with_reducible refine gate_dst (N := 5) rfl ?_); refine box_event ?hg (N := 5) ?hd (cs := #[.int .i64 a1_0, .int .i64 a1_1]) (t := 24) ?hr ?_; (case hd => rfl); (case hg => rfl); (case hr => first | (go_simp; done) | (go_simp; rfl)); intro gb127 hg w157 hbox hb; have n0_ := kB BK126 hb; have n1_ := lB hb; have n2_ := Aside0.mk (hbox); have n3_ := sA hg; have n4_ := sA hg; have n5_ := nA hg BK126; have n6_ := nB hg BK126; clear BK126; clear HB; have BK126 := n0_; have HB := n1_; have BK127 := n2_; have GW127 := n3_; have GE127 := n4_; have NB126_127 := n5_; have NB127_126 := n6_; clear n0_ n1_ n2_ n3_ n4_ n5_ n6_; clear hb hbox hg) | ((with_reducible refine gate_dst (N := 6) rfl ?_); refine box_event ?hg (N := 6) ?hd (cs := #[.int .i64 a2_0, .int .i64 a2_1]) (t := 24) ?hr ?_; (case hd => rfl); (case hg => rfl); (case hr => first | (go_simp; done) | (go_simp; rfl)); intro gb128 hg w158 hbox hb; have n0_ := kB BK126 hb; have n1_ := kB BK127 hb; have n2_ := lB hb; have n3_ := Aside0.mk (hbox); have n4_ := sA hg; have n5_ := sA hg; have n6_ := nA hg BK126; have n7_ := nB hg BK126; have n8_ := nA hg BK127; have n9_ := nB hg BK127; clear BK126; clear BK127; clear HB; have BK126 := n0_; have BK127 := n1_; have HB := n2_; have BK128 := n3_; have GW128 := n4_; have GE128 := n5_; have NB126_128 := n6_; have NB128_126 := n7_; have NB127_128 := n8_; have NB128_127 := n9_; clear n0_ n1_ n2_ n3_ n4_ n5_ n6_ n7_ n8_ n9_; clear hb hbox hg) | ((with_reducible refine gate_dst (N := 7) rfl ?_); refine box_event ?hg (N := 7) ?hd (cs := #[.int .i64 a3_0, .int .i64 a3_1]) (t := 24) ?hr ?_; (case hd => rfl); (case hg => rfl); (case hr => first | (go_simp; done) | (go_simp; rfl)); intro gb129 hg w159 hbox hb; have n0_ := kB BK126 hb; have n1_ := kB BK127 hb; have n2_ := kB BK128 hb; have n3_ := lB hb; have n4_ := Aside0.mk (hbox); have n5_ := sA hg; have n6_ := sA hg; have n7_ := nA hg BK126; have n8_ := nB hg BK126; have n9_ := nA hg BK127; have n10_ := nB hg BK127; have n11_ := nA hg BK128; have n12_ := nB hg BK128; clear BK126; clear BK127; clear BK128; clear HB; have BK126 := n0_; have BK127 := n1_; have BK128 := n2_; have HB := n3_; have BK129 := n4_; have GW129 := n5_; have GE129 := n6_; have NB126_129 := n7_; have NB129_126 := n8_; have NB127_129 := n9_; have NB129_127 := n10_; have NB128_129 := n11_; have NB129_128 := n12_; clear n0_ n1_ n2_ n3_ n4_ n5_ n6_ n7_ n8_ n9_ n10_ n11_ n12_; clear hb hbox hg) | ((with_reducible refine gate_dst (N := 8) rfl ?_); refine box_event ?hg (N := 8) ?hd (cs := #[.int .i64 0, .int .i64 0]) (t := 24) ?hr ?_; (case hd => rfl); (case hg => rfl); (case hr => first | (go_simp; done) | (go_simp; rfl)); intro gb130 hg w160 hbox hb; have n0_ := kB BK126 hb; have n1_ := kB BK127 hb; have n2_ := kB BK128 hb; have n3_ := kB BK129 hb; have n4_ := lB hb; have n5_ := Aside0.mk (hbox); have n6_ := sA hg; have n7_ := sA hg; have n8_ := nA hg BK126; have n9_ := nB hg BK126; have n10_ := nA hg BK127; have n11_ := nB hg BK127; have n12_ := nA hg BK128; have n13_ := nB hg BK128; have n14_ := nA hg BK129; have n15_ := nB hg BK129; clear BK126; clear BK127; clear BK128; clear BK129; clear HB; have BK126 := n0_; have BK127 := n1_; have BK128 := n2_; have BK129 := n3_; have HB := n4_; have BK130 := n5_; have GW130 := n6_; have GE130 := n7_; have NB126_130 := n8_; have NB130_126 := n9_; have NB127_130 := n10_; have NB130_127 := n11_; have NB128_130 := n12_; have NB130_128 := n13_; have NB129_130 := n14_; have NB130_129 := n15_; clear n0_ n1_ n2_ n3_ n4_ n5_ n6_ n7_ n8_ n9_ n10_ n11_ n12_ n13_ n14_ n15_; clear hb hbox hg; have hnb161 := NB126_127.out; have hnc161 := NB127_126.out; have hnb162 := NB126_128.out; have hnc162 := NB128_126.out; have hnb163 := NB126_129.out; have hnc163 := NB129_126.out; have hnb164 := NB126_130.out; have hnc164 := NB130_126.out; obtain ⟨hcz165_0, hcz165_1, hfz165_0, hfz165_1⟩ := cz2 BK126; have hnb166 := NB127_128.out; have hnc166 := NB128_127.out; have hnb167 := NB127_129.out; have hnc167 := NB129_127.out; have hnb168 := NB127_130.out; have hnc168 := NB130_127.out; obtain ⟨hcz169_0, hcz169_1, hfz169_0, hfz169_1⟩ := cz2 BK127; have hnb170 := NB128_129.out; have hnc170 := NB129_128.out; have hnb171 := NB128_130.out; have hnc171 := NB130_128.out; obtain ⟨hcz172_0, hcz172_1, hfz172_0, hfz172_1⟩ := cz2 BK128; have hnb173 := NB129_130.out; have hnc173 := NB130_129.out; obtain ⟨hcz174_0, hcz174_1, hfz174_0, hfz174_1⟩ := cz2 BK129) | ((with_reducible refine gate_dst (N := 22) rfl ?_); refine Kd.R_lit k24 _ 24 ?hg (N := 22) ?hd (xs := ([(⟨a0_0, a0_1⟩ : S24), (⟨a1_0, a1_1⟩ : S24), (⟨a2_0, a2_1⟩ : S24), (⟨a3_0, a3_1⟩ : S24)] : List (S24))) (inner := [.int .i64 a0_0, .int .i64 a0_1, .int .i64 a1_0, .int .i64 a1_1, .int .i64 a2_0, .int .i64 a2_1, .int .i64 a3_0, .int .i64 a3_1]) (ok := fun _ => True) (okp := fun _ => True) ?hr ?hp (fun _ hk => hk) trivial (Below.refl _ _) (Nat.le_refl _) (by simp) ?_; (case hd => rfl); (case hg => rfl); (case hr => first | (go_simp; done) | (go_simp; rfl)); (case hp => exact (Reps.c2 (show Kd.M k24 _ _ _ (⟨a0_0, a0_1⟩ : S24) [.int .i64 a0_0, .int .i64 a0_1] from (k24_mkM _ _ _ (⟨a0_0, a0_1⟩ : S24) )) (Reps.c2 (show Kd.M k24 _ _ _ (⟨a1_0, a1_1⟩ : S24) [.int .i64 a1_0, .int .i64 a1_1] from (k24_mkM _ _ _ (⟨a1_0, a1_1⟩ : S24) )) (Reps.c2 (show Kd.M k24 _ _ _ (⟨a2_0, a2_1⟩ : S24) [.int .i64 a2_0, .int .i64 a2_1] from (k24_mkM _ _ _ (⟨a2_0, a2_1⟩ : S24) )) (Reps.c2 (show Kd.M k24 _ _ _ (⟨a3_0, a3_1⟩ : S24) [.int .i64 a3_0, .int .i64 a3_1] from (k24_mkM _ _ _ (⟨a3_0, a3_1⟩ : S24) )) (Reps.none _ _)))))); intro v132 w175 ho176 hb hg_ hnew_; clear hg_ hnew_; (first | rw [← Ny131.out] at ho176 | (simp only [Int.reduceToNat] at ho176; rw [← Ny131.out] at ho176)); have n0_ := Aside0.mk (Kd.R_lower (Kd.R_newB (Kd.R_newB (Kd.R_newB (Kd.R_newB (Kd.R_newB ho176 (bkA BK126)) (bkA BK127)) (bkA BK128)) (bkA BK129)) (bkA BK130)) (below_size blA)); have n1_ := kB BK126 hb; have n2_ := kB BK127 hb; have n3_ := kB BK128 hb; have n4_ := kB BK129 hb; have n5_ := kB BK130 hb; have n6_ := lB hb; clear BK126; clear BK127; clear BK128; clear BK129; clear BK130; clear HB; have HO133 := n0_; have BK126 := n1_; have BK127 := n2_; have BK128 := n3_; have BK129 := n4_; have BK130 := n5_; have HB := n6_; clear n0_ n1_ n2_ n3_ n4_ n5_ n6_; clear hb ho176; obtain ⟨Ao177, co177, eo177⟩ := Kd.R_slice HO133.out; subst eo177) | ((with_reducible refine gate_callee (f := 8) rfl ?_); refine goesL_ (some 23) rfl rfl Try.func8 (by kernel_rfl) rfl #[.int .i64 2, .slice none 0 0, .slice Ao177 y131.length co177] rfl hA ?_; (refine (spec_l05Code.calls k 2 _ _ ([] : List (S47)) _ _ y131 t134 _ ?side1 ?side2 ?side3 ?side4 A5.out).mono ?_); (case side1 => exact Kd.C_nil _ _); (case side2 => exact Nat.le_refl _); (case side3 => repeat (first | exact (Kd.R_reads' HO133.out).2.2 | (with_reducible refine Kd.C_alloc ?_ _) | (with_reducible refine Kd.C_drewN ?_ _) | (with_reducible refine Kd.C_drew ?_))); (case side4 => exact (Kd.R_reads' HO133.out).2.1); rintro e w178 ⟨rfl, hb⟩; refine ⟨_, rfl, ?_⟩; have n0_ := Aside0.mk (Kd.R_below (rA HO133) hb); have n1_ := kB BK126 hb; have n2_ := kB BK127 hb; have n3_ := kB BK128 hb; have n4_ := kB BK129 hb; have n5_ := kB BK130 hb; have n6_ := lB hb; clear HO133; clear BK126; clear BK127; clear BK128; clear BK129; clear BK130; clear HB; have HO133 := n0_; have BK126 := n1_; have BK127 := n2_; have BK128 := n3_; have BK129 := n4_; have BK130 := n5_; have HB := n6_; clear n0_ n1_ n2_ n3_ n4_ n5_ n6_; (try clear hb); (try clear hb2); (try clear hk); (try clear hi); obtain ⟨hcz179_0, hcz179_1, hfz179_0, hfz179_1⟩ := cz2 BK130))
  refine bodyPost_ret (results_ct rfl _ _ gb130 24 #[.int .i64 0, .int .i64 0] (0, 0) _ rfl (by refine dr ?_; refine blk_put (cs := #[.int .i64 0, .int .i64 0]) ?_ 1 _ rfl; refine dr ?_; refine blk_put (cs := #[.int .i64 0, .int .i64 0]) ?_ 0 _ rfl; exact bkA BK130) Try.underlying24 rfl (by kernel_rfl)) rfl ?_
  exact finA blA
end Go.Proofs.Ytnejmbhpngdiiaa.PAll
