-- turned for this claim out of the kit's print: the same functions, packed anew
import Derived.Test.YtccpccnnbacgjaaQx
import Derived.Test.YtccpccnnbacgjaaQLmarkMatrixS
import Derived.Test.YtccpccnnbacgjaaQLtoBall
namespace Go.Proofs.Ytccpccnnbacgjaa.PAll
open Go.RowKit Go.Proofs.YtccpccnnbacgjaaW.PrintWords Go.Proofs.YtccpccnnbacgjaaW.PrintLast Go.Proofs.YtccpccnnbacgjaaW.PrintMore
attribute [local go_sem] Go.Proofs.Ytccpccnnbacgjaa.Aux.setCell_drewN Go.Proofs.Ytccpccnnbacgjaa.Aux.isSome_setCell max2_int min2_int max_two min_two max_three min_three max_four min_four   -- for this text's walks alone
set_option linter.unusedVariables false
set_option linter.unusedSimpArgs false
/-! ### spec_l04Reduce: function 140 -/
mutual
def spec_l04Reduce.l0 : Nat → List Int → Int → Int → Int → Option (Int × Int × Int × Int × Bool)
 | 0, _, _, _, _ => none
 | k + 1, x4, x5, x6, x7 => if x7 < 4 then (if 0 ≤ x7 then (if x7 < (x4.length : Int) then ((spec_l01Gcd.f k x5 (mx (rd x4 x7) (wrap64 (-(rd x4 x7))))).bind fun t1038 => (if x6 = 0 then (if (rd x4 x7) = 0 then (spec_l04Reduce.l0 k x4 t1038 x6 (wrap64 (x7 + 1))) else (if (mx (rd x4 x7) (wrap64 (-(rd x4 x7)))) = 0 then (none) else (spec_l04Reduce.l0 k x4 t1038 (wrap64 (Int.tdiv (rd x4 x7) (mx (rd x4 x7) (wrap64 (-(rd x4 x7)))))) (wrap64 (x7 + 1))))) else (spec_l04Reduce.l0 k x4 t1038 x6 (wrap64 (x7 + 1))))) else (none)) else (none)) else (spec_l04Reduce.l1 k x4 (mx x5 (wrap64 (-x5))) x6 true 0)
def spec_l04Reduce.l1 : Nat → List Int → Int → Int → Bool → Int → Option (Int × Int × Int × Int × Bool)
 | 0, _, _, _, _, _ => none
 | k + 1, x4, x5, x6, x8, x9 => if x9 < 4 then (if 0 ≤ x9 then (if x9 < (x4.length : Int) then (if x5 = 0 then (none) else ((some (x4.set (x9 : Int).toNat (wrap64 ((wrap64 (Int.tdiv (rd x4 x9) x5)) * x6)) : List Int)).bind fun y1044 => (if x8 = true then ((spec_l01In.f (rd y1044 x9) (-1000) 1000).bind fun t1046 => (spec_l04Reduce.l1 k y1044 x5 x6 t1046 (wrap64 (x9 + 1)))) else (spec_l04Reduce.l1 k y1044 x5 x6 false (wrap64 (x9 + 1)))))) else (none)) else (none)) else (if 0 < (x4.length : Int) then (if 1 < (x4.length : Int) then (if 2 < (x4.length : Int) then (if 3 < (x4.length : Int) then (some (rd x4 0, rd x4 1, rd x4 2, rd x4 3, x8)) else (none)) else (none)) else (none)) else (none))
end
def spec_l04Reduce.f (k : Nat) (a0_0 : Int) (a0_1 : Int) (a0_2 : Int) (a0_3 : Int) : Option (Int × Int × Int × Int × Bool) := spec_l04Reduce.l0 k (([a0_0, a0_1, a0_2, a0_3] : List Int)) 0 0 0
theorem spec_l04Reduce.mono_l : ∀ k, (∀ y0 y1 y2 y3, LeO (spec_l04Reduce.l0 k y0 y1 y2 y3) (spec_l04Reduce.l0 (k + 1) y0 y1 y2 y3)) ∧ (∀ y0 y1 y2 y3 y4, LeO (spec_l04Reduce.l1 k y0 y1 y2 y3 y4) (spec_l04Reduce.l1 (k + 1) y0 y1 y2 y3 y4))
 | 0 => ⟨fun _ _ _ _ r h => by simp [spec_l04Reduce.l0] at h, fun _ _ _ _ _ r h => by simp [spec_l04Reduce.l1] at h⟩
 | k + 1 => by
  obtain ⟨ih0, ih1⟩ := spec_l04Reduce.mono_l k
  refine ⟨?_, ?_⟩
  ·
   intro y0 y1 y2 y3
   unfold spec_l04Reduce.l0
   repeat' first
   | (with_reducible exact ih0 _ _ _ _)
   | (with_reducible exact ih1 _ _ _ _ _)
   | (with_reducible exact spec_l01Gcd.mono _ _ _)
   | (with_reducible exact LeO.refl _)
   | (with_reducible exact LeO.none _)
   | (with_reducible refine LeO.ite ?_ ?_)
   | (with_reducible refine LeO.bind ?_ (fun _ => ?_))
  ·
   intro y0 y1 y2 y3 y4
   unfold spec_l04Reduce.l1
   repeat' first
   | (with_reducible exact ih0 _ _ _ _)
   | (with_reducible exact ih1 _ _ _ _ _)
   | (with_reducible exact spec_l01Gcd.mono _ _ _)
   | (with_reducible exact LeO.refl _)
   | (with_reducible exact LeO.none _)
   | (with_reducible refine LeO.ite ?_ ?_)
   | (with_reducible refine LeO.bind ?_ (fun _ => ?_))
theorem spec_l04Reduce.mono : ∀ a0 a1 a2 a3 k, LeO (spec_l04Reduce.f k a0 a1 a2 a3) (spec_l04Reduce.f (k + 1) a0 a1 a2 a3) := by
 intro a0 a1 a2 a3 k
 obtain ⟨ih0, ih1⟩ := spec_l04Reduce.mono_l k
 unfold spec_l04Reduce.f
 repeat' first
   | (with_reducible exact ih0 _ _ _ _)
   | (with_reducible exact ih1 _ _ _ _ _)
   | (with_reducible exact spec_l01Gcd.mono _ _ _)
   | (with_reducible exact LeO.refl _)
   | (with_reducible exact LeO.none _)
   | (with_reducible refine LeO.ite ?_ ?_)
   | (with_reducible refine LeO.bind ?_ (fun _ => ?_))
def spec_l04Reduce.T6 : Bool × List (List Nat × List Nat) := (true, [([], []), ([], []), ([], []), ([1, 2], [1, 2]), ([3], [3]), ([], []), ([], []), ([5, 6], [5, 6]), ([7], [7]), ([8], [8]), ([4, 9], [4, 9]), ([0, 10], [0, 10]), ([11, 11, 0, 1, 2, 3, 4, 5, 6, 7, 8, 9, 10, 11], [0, 11])])
def spec_l04Reduce.B6 : List Nat := [0, 0, 0, 6, 14, 0, 0, 96, 224, 480, 1022, 2047, 4095]
theorem spec_l04Reduce.tab6 : rtab .any (opsOf Try.f140 6) = spec_l04Reduce.T6 := by kernel_rfl
theorem spec_l04Reduce.bits6 : waitsOk spec_l04Reduce.T6.2 spec_l04Reduce.B6 = true := by kernel_rfl
def spec_l04Reduce.T8 : Bool × List (List Nat × List Nat) := (true, [([], []), ([], []), ([0, 1], [0, 1]), ([2], [2]), ([], []), ([], []), ([4, 5], [4, 5]), ([6], [6]), ([], []), ([], []), ([8, 9], [8, 9]), ([10], [10]), ([11], [11]), ([7, 12], [7, 12]), ([3, 13], [3, 13]), ([14, 0, 1, 2, 3, 4, 5, 6, 7, 8, 9, 10, 11, 12, 13, 14], [14])])
def spec_l04Reduce.B8 : List Nat := [0, 0, 3, 7, 0, 0, 48, 112, 0, 0, 768, 1792, 3840, 8176, 16383, 32767]
theorem spec_l04Reduce.tab8 : rtab .any (opsOf Try.f140 8) = spec_l04Reduce.T8 := by kernel_rfl
theorem spec_l04Reduce.bits8 : waitsOk spec_l04Reduce.T8.2 spec_l04Reduce.B8 = true := by kernel_rfl
def spec_l04Reduce.T16 : Bool × List (List Nat × List Nat) := (true, [([], []), ([0], [0]), ([1], [1]), ([], []), ([3], [3]), ([4], [4]), ([2, 5], [2, 5]), ([], []), ([7], [7]), ([8], [8]), ([], []), ([10], [10]), ([11], [11]), ([9, 12], [9, 12]), ([6, 13], [6, 13]), ([], []), ([14, 0, 1, 2, 3, 4, 5, 6, 7, 8, 9, 10, 11, 12, 13, 14], [14]), ([15, 16, 0, 1, 2, 3, 4, 5, 6, 7, 8, 9, 10, 11, 12, 13, 14, 15, 16], [15])])
def spec_l04Reduce.B16 : List Nat := [0, 1, 3, 0, 8, 24, 63, 0, 128, 384, 0, 1024, 3072, 8064, 16383, 0, 32767, 131071]
theorem spec_l04Reduce.tab16 : rtab .any (opsOf Try.f140 16) = spec_l04Reduce.T16 := by kernel_rfl
theorem spec_l04Reduce.bits16 : waitsOk spec_l04Reduce.T16.2 spec_l04Reduce.B16 = true := by kernel_rfl
set_option maxHeartbeats 8000000 in
set_option maxRecDepth 100000 in
theorem spec_l04Reduce.calls (k : Nat) (a0_0 : Int) (a0_1 : Int) (a0_2 : Int) (a0_3 : Int) (r1 : Int) (r2 : Int) (r3 : Int) (r4 : Int) (r5 : Bool) (w : World) (h : spec_l04Reduce.f k a0_0 a0_1 a0_2 a0_3 = some (r1, r2, r3, r4, r5)) :
  Calls Try.prog 140 #[.agg #[.int .i64 a0_0, .int .i64 a0_1, .int .i64 a0_2, .int .i64 a0_3]] w fun e w' => e = .returned (.tuple #[.agg #[.int .i64 r1, .int .i64 r2, .int .i64 r3, .int .i64 r4], .bool r5]) ∧ Below w.heap.size w w' := by
 have hu26 := Try.underlying26
 have hu22 := Try.underlying22
 have HB := Aside0.mk (Below.refl w.heap.size w)
 have H := h
 unfold spec_l04Reduce.f at H
 clear h
 obtain ⟨y1033, hy1033⟩ : ∃ y_ : List Int, y_ = (([a0_0, a0_1, a0_2, a0_3] : List Int)) := ⟨_, rfl⟩
 replace H : (spec_l04Reduce.l0 k y1033 0 0 0) = some (r1, r2, r3, r4, r5) := by first | (rw [hy1033]; with_reducible exact H) | (have H2_ := (Option.bind_some _ _).symm.trans H; rw [hy1033]; with_reducible exact H2_) | (have H2_ := (Option.bind_some _ _).symm.trans H; with_reducible exact H2_) | with_reducible exact H | (rw [hy1033]; exact H) | exact H
 have Ny1033 := Aside0.mk hy1033
 clear hy1033
 have H' := Aside0.mk H
 clear H
 go_enter Try.func140, Try.ntmps140
 go_wp2_with (first | ((with_reducible refine gate_dst (N := 1) rfl ?_); refine box_event ?hg (N := 1) ?hd (cs := #[.int .i64 a0_0, .int .i64 a0_1, .int .i64 a0_2, .int .i64 a0_3]) (t := 26) ?hr ?_; (case hd => rfl); (case hg => rfl); (case hr => first | (go_simp; done) | (go_simp; rfl)); intro gb1031 hg w2 hbox hb; have n0_ := lB hb; have n1_ := Aside0.mk (hbox); have n2_ := sA hg; have n3_ := sA hg; clear HB; have HB := n0_; have BK1031 := n1_; have GW1031 := n2_; have GE1031 := n3_; clear n0_ n1_ n2_ n3_; clear hb hbox hg) | ((with_reducible refine gate_dst (N := 2) rfl ?_); refine box_event ?hg (N := 2) ?hd (cs := #[.int .i64 0, .int .i64 0, .int .i64 0, .int .i64 0]) (t := 26) ?hr ?_; (case hd => rfl); (case hg => rfl); (case hr => first | (go_simp; done) | (go_simp; rfl)); intro gb1032 hg w3 hbox hb; have n0_ := kB BK1031 hb; have n1_ := lB hb; have n2_ := Aside0.mk (hbox); have n3_ := sA hg; have n4_ := sA hg; have n5_ := nA hg BK1031; have n6_ := nB hg BK1031; clear BK1031; clear HB; have BK1031 := n0_; have HB := n1_; have BK1032 := n2_; have GW1032 := n3_; have GE1032 := n4_; have NB1031_1032 := n5_; have NB1032_1031 := n6_; clear n0_ n1_ n2_ n3_ n4_ n5_ n6_; clear hb hbox hg; have hnb4 := NB1031_1032.out; have hnc4 := NB1032_1031.out; obtain ⟨hcz5_0, hcz5_1, hcz5_2, hcz5_3, hfz5_0, hfz5_1, hfz5_2, hfz5_3⟩ := cz4 BK1031) | ((with_reducible refine gate_dst (N := 22) rfl ?_); refine Kd.R_lit (Kd.int .i64) _ 2 ?hg (N := 22) ?hd (xs := ([a0_0, a0_1, a0_2, a0_3] : List Int)) (inner := [.int .i64 a0_0, .int .i64 a0_1, .int .i64 a0_2, .int .i64 a0_3]) (ok := fun _ => True) (okp := fun _ => True) ?hr ?hp (fun _ hk => hk) trivial (Below.refl _ _) (Nat.le_refl _) (by simp) ?_; (case hd => rfl); (case hg => rfl); (case hr => first | (go_simp; done) | (go_simp; rfl)); (case hp => exact (Reps.one (show Kd.M (Kd.int .i64) _ _ _ a0_0 [.int .i64 a0_0] from rfl) (Reps.one (show Kd.M (Kd.int .i64) _ _ _ a0_1 [.int .i64 a0_1] from rfl) (Reps.one (show Kd.M (Kd.int .i64) _ _ _ a0_2 [.int .i64 a0_2] from rfl) (Reps.one (show Kd.M (Kd.int .i64) _ _ _ a0_3 [.int .i64 a0_3] from rfl) (Reps.none _ _)))))); intro v1034 w6 ho7 hb hg_ hnew_; clear hg_ hnew_; (first | rw [← Ny1033.out] at ho7 | (simp only [Int.reduceToNat] at ho7; rw [← Ny1033.out] at ho7)); have n0_ := Aside0.mk (Kd.R_lower ho7 (below_size blA)); have n1_ := kB BK1031 hb; have n2_ := kB BK1032 hb; have n3_ := lB hb; clear BK1031; clear BK1032; clear HB; have HO1035 := n0_; have BK1031 := n1_; have BK1032 := n2_; have HB := n3_; clear n0_ n1_ n2_ n3_; clear hb ho7))
 go_loopg [5, 6, 7] k (fun kq v5 v6 v7 w' => ∃ (x5_1 : Int) (x6_1 : Int) (x7_1 : Int), v5 = .int .i64 x5_1 ∧ v6 = .int .i64 x6_1 ∧ v7 = .int .i64 x7_1 ∧ Aside0 (spec_l04Reduce.l0 kq y1033 x5_1 x6_1 x7_1 = some (r1, r2, r3, r4, r5)) ∧ Aside0 (kq ≤ k) ∧ Aside0 (Kd.R (Kd.int .i64) 2 w' w.heap.size (fun _ => True) v1034 y1033) ∧ Aside0 (w'.heap[gb1031]? = some (.cells #[.int .i64 a0_0, .int .i64 a0_1, .int .i64 a0_2, .int .i64 a0_3] 26 (0, 0))) ∧ Aside0 (w'.heap[gb1032]? = some (.cells #[.int .i64 0, .int .i64 0, .int .i64 0, .int .i64 0] 26 (0, 0))) ∧ Aside0 (Below w.heap.size w w'))
 case atStart => exact ⟨(0), (0), (0), hB, hB, hB, H', ⟨Nat.le_refl _⟩, ⟨rA HO1035⟩, ⟨bkA BK1031⟩, ⟨bkA BK1032⟩, ⟨blA⟩⟩
 case round =>
  clear H'
  try clear hcz5_0
  try clear hcz5_1
  try clear hcz5_2
  try clear hcz5_3
  try clear hfz5_0
  try clear hfz5_1
  try clear hfz5_2
  try clear hfz5_3
  obtain ⟨x5_1, x6_1, x7_1, rfl, rfl, rfl, HA, HK1, HO_4, BK1031, BK1032, HB⟩ := hrel
  cases gk with
  | zero => exact absurd HA.out (by simp [spec_l04Reduce.l0])
  | succ k1 =>
   have H := HA.out
   clear HA
   simp only [spec_l04Reduce.l0] at H
   by_cases c8 : x7_1 < 4
   ·
    rw [if_pos c8] at H
    have c8b0 := decide_eq_true c8
    clear c8
    by_cases c9 : 0 ≤ x7_1
    ·
     rw [if_pos c9] at H
     have c9b0 := decide_eq_true c9
     clear c9
     by_cases c10 : x7_1 < (y1033.length : Int)
     ·
      rw [if_pos c10] at H
      have c10b0 := decide_eq_true c10
      clear c10
      obtain ⟨ji11, hji11⟩ : ∃ j_ : Int, (mx (rd y1033 x7_1) (wrap64 (-(rd y1033 x7_1)))) = j_ := ⟨_, rfl⟩
      replace H : ((spec_l01Gcd.f k1 x5_1 (ji11)).bind fun t1038 => (if x6_1 = 0 then (if (rd y1033 x7_1) = 0 then (spec_l04Reduce.l0 k1 y1033 t1038 x6_1 (wrap64 (x7_1 + 1))) else (if (ji11) = 0 then (none) else (spec_l04Reduce.l0 k1 y1033 t1038 (wrap64 (Int.tdiv (rd y1033 x7_1) (ji11))) (wrap64 (x7_1 + 1))))) else (spec_l04Reduce.l0 k1 y1033 t1038 x6_1 (wrap64 (x7_1 + 1))))) = some (r1, r2, r3, r4, r5) := by first | (rw [hji11] at H; exact H) | (simp only [hji11] at H ⊢; exact H)
      have hji11_ : (if (rd y1033 x7_1) < (wrap64 (-(rd y1033 x7_1))) then (wrap64 (-(rd y1033 x7_1))) else (rd y1033 x7_1)) = ji11 := hji11
      replace H := bS H
      obtain ⟨t1038, A12, H⟩ := H
      try dsimp only at H
      by_cases c13 : x6_1 = 0
      ·
       rw [if_pos c13] at H
       have c13b0 : (x6_1 == 0) = true := beq_iff_eq.mpr c13
       have c13b1 : (x6_1 != 0) = false := bne_eq_false_iff_eq.mpr c13
       clear c13
       by_cases c14 : (rd y1033 x7_1) = 0
       ·
        rw [if_pos c14] at H
        have c14b0 : ((rd y1033 x7_1) == 0) = true := beq_iff_eq.mpr c14
        have c14b1 : ((rd y1033 x7_1) != 0) = false := bne_eq_false_iff_eq.mpr c14
        clear c14
        have H' := Aside0.mk H
        clear H
        try go_wp2
        have n0_ := Aside0.mk (Kd.R_drew HO_4.out)
        have n1_ := Aside0.mk (blk_drew BK1031.out)
        have n2_ := Aside0.mk (blk_drew BK1032.out)
        have n3_ := Aside0.mk (below_drew1 HB.out)
        clear HO_4
        clear BK1031
        clear BK1032
        clear HB
        have HO_4 := n0_
        have BK1031 := n1_
        have BK1032 := n2_
        have HB := n3_
        clear n0_ n1_ n2_ n3_
        obtain ⟨Ao16, co16, eo16⟩ := Kd.R_slice HO_4.out
        (first | subst eo16 | (injection eo16 with f1_ f2_ f3_; have f4_ := f1_.symm; have f5_ := f3_.symm; clear f1_ f2_ f3_; subst f4_; subst f5_))
        have p1036 : 0 ≤ (x7_1 : Int) := dA
        have q1036 : x7_1 < (y1033.length : Int) := dA
        obtain ⟨ad1036, e1036, hx1036_0⟩ := Kd.at_int (Kd.R_reads' HO_4.out).2.2 x7_1 p1036 q1036
        cases e1036
        replace p1036 := eq_true p1036
        replace q1036 := eq_true q1036
        have p1037 : 0 ≤ (x7_1 : Int) := dA
        have q1037 : x7_1 < (y1033.length : Int) := dA
        obtain ⟨ad1037, e1037, hx1037_0⟩ := Kd.at_int (Kd.R_reads' HO_4.out).2.2 x7_1 p1037 q1037
        obtain rfl : ad1036 = ad1037 := (by injection e1037)
        replace p1037 := eq_true p1037
        replace q1037 := eq_true q1037
        refine start_ (n := 13) (S := fun w' => w'.cell? (ad1036.add (x7_1).toNat) = some (.int .i64 (rd y1033 x7_1)) ∧ w'.cell? (ad1036.add (x7_1).toNat) = some (.int .i64 (rd y1033 x7_1))) (ds := []) #[Z, Z, Z, Z, Z, Z, Z, Z, Z, Z, Z, Z, Z] (by kernel_rfl) rfl rfl ⟨hx1036_0, hx1037_0⟩ (fun hHeld => ?_); refine with_tabW spec_l04Reduce.tab6 spec_l04Reduce.bits6 (fun HT_ HW_ => ?_)
        generalize wr.drew = w15 at HO_4 BK1031 BK1032 HB hx1036_0 hx1037_0 hHeld ⊢
        refine puA (i := 0) (N := some 27) #[Y, Z, Z, Z, Z, Z, Z, Z, Z, Z, Z, Z, Z] rfl rfl HT_ ?_
        refine puA (i := 1) (N := some 28) #[Y, Y, Z, Z, Z, Z, Z, Z, Z, Z, Z, Z, Z] rfl rfl HT_ ?_
        refine puA (i := 2) (N := some 29) #[Y, Y, Y, Z, Z, Z, Z, Z, Z, Z, Z, Z, Z] rfl rfl HT_ ?_
        refine puA (i := 3) (N := some 30) #[Y, Y, Y, Y, Z, Z, Z, Z, Z, Z, Z, Z, Z] rfl rfl HT_ ?_
        refine puA (i := 5) (N := some 32) #[Y, Y, Y, Y, Z, Y, Z, Z, Z, Z, Z, Z, Z] rfl rfl HT_ ?_
        refine puA (i := 6) (N := some 33) #[Y, Y, Y, Y, Z, Y, Y, Z, Z, Z, Z, Z, Z] rfl rfl HT_ ?_
        refine puA (i := 7) (N := some 34) #[Y, Y, Y, Y, Z, Y, Y, Y, Z, Z, Z, Z, Z] rfl rfl HT_ ?_
        refine take_ (i := 4) (N := some 31) (v := ?_) (a' := ?_) #[Y, Y, Y, Y, Y, Y, Y, Y, Z, Z, Z, Z, Z] rfl rfl (take_ofW HT_.out HW_.out (by kernel_rfl)) (fun _ _ _ h => h) (Or.inl ⟨by rfl, ?_⟩) hHeld ?_ ?_
        rotate_left
        ·
         rintro w' ⟨s0, s1⟩
         go_simp
         with_reducible rfl
        rotate_left
        ·
         simp only [pA]
         rfl
        refine take_ (i := 8) (N := some 35) (v := ?_) (a' := ?_) #[Y, Y, Y, Y, Y, Y, Y, Y, Y, Z, Z, Z, Z] rfl rfl (take_ofW HT_.out HW_.out (by kernel_rfl)) (fun _ _ _ h => h) (Or.inl ⟨by rfl, ?_⟩) hHeld ?_ ?_
        rotate_left
        ·
         rintro w' ⟨s0, s1⟩
         go_simp
         with_reducible rfl
        rotate_left
        ·
         simp only [pA]
         rfl
        refine puA (i := 9) (N := some 36) #[Y, Y, Y, Y, Y, Y, Y, Y, Y, Y, Z, Z, Z] rfl rfl HT_ ?_
        refine puA (i := 10) (N := some 37) #[Y, Y, Y, Y, Y, Y, Y, Y, Y, Y, Y, Z, Z] rfl rfl HT_ ?_
        refine one_ (i := 11) (N := some 38) #[Y, Y, Y, Y, Y, Y, Y, Y, Y, Y, Y, Y, Z] rfl rfl (one_of HT_.out (by kernel_rfl)) (by decide) (fun K hK => ?_)
        refine goes_ Try.func131 (by kernel_rfl) rfl #[.int .i64 x5_1, .int .i64 ji11] (by rfl) rfl rfl (by (try simp only [List.map_toArray, List.map_cons, List.map_nil]); first | done | (simp only [hji11]; rfl) | rfl | (simp only [List.length_drop, List.length_take]; rfl)) ?_
        with_reducible refine (spec_l01Gcd.calls k1 x5_1 ji11 t1038 _ A12.out).mono ?_
        rintro e w17 ⟨rfl, hb⟩
        have HS0_ := (hb.cell (World.block_lt_of_cell? _ _ (hHeld.1))).trans (hHeld.1)
        have HS1_ := (hb.cell (World.block_lt_of_cell? _ _ (hHeld.2))).trans (hHeld.2)
        refine ⟨_, rfl, ?_⟩
        replace HO_4 := Aside0.mk (Kd.R_below (rA HO_4) hb)
        replace BK1031 := kB BK1031 hb
        replace BK1032 := kB BK1032 hb
        replace HB := lB hb
        (try clear hb)
        (try clear hb2)
        (try clear hk)
        (try clear hi)
        refine hK.out _ _ ⟨HS0_, HS1_⟩ (fun hHeld => ?_)
        clear hK K
        refine norm_ (a' := ?_) ?_ ?_
        rotate_left
        ·
         show Act.put _ (some 38) _ = _
         simp only [pA]
         rfl
        refine puA (i := 12) (N := some 5) #[Y, Y, Y, Y, Y, Y, Y, Y, Y, Y, Y, Y, Y] rfl rfl HT_ ?_
        refine done_ (done_of HT_.out (by kernel_rfl)) ?_
        have p1039 : 0 ≤ (x7_1 : Int) := dA
        have q1039 : x7_1 < (y1033.length : Int) := dA
        obtain ⟨ad1039, e1039, hx1039_0⟩ := Kd.at_int (Kd.R_reads' HO_4.out).2.2 x7_1 p1039 q1039
        obtain rfl : ad1036 = ad1039 := (by injection e1039)
        replace p1039 := eq_true p1039
        replace q1039 := eq_true q1039
        try go_wp2
        go_roundg k1
        case measure => have := HK1.out; omega
        case rel => exact ⟨(t1038), (x6_1), (wrap64 (x7_1 + 1)), hB, hB, hB, H', ⟨by have := HK1.out; omega⟩, ⟨rA HO_4⟩, ⟨bkA BK1031⟩, ⟨bkA BK1032⟩, ⟨blA⟩⟩
       ·
        rw [if_neg c14] at H
        have c14b0 : ((rd y1033 x7_1) == 0) = false := beq_eq_false_iff_ne.mpr c14
        have c14b1 : ((rd y1033 x7_1) != 0) = true := bne_iff_ne.mpr c14
        by_cases c18 : (ji11) = 0
        ·
         rw [if_pos c18] at H
         exact absurd H (by simp)
        ·
         rw [if_neg c18] at H
         have c18b0 : ((ji11) == 0) = false := beq_eq_false_iff_ne.mpr c18
         have c18b1 : ((ji11) != 0) = true := bne_iff_ne.mpr c18
         have H' := Aside0.mk H
         clear H
         try go_wp2
         have n0_ := Aside0.mk (Kd.R_drew HO_4.out)
         have n1_ := Aside0.mk (blk_drew BK1031.out)
         have n2_ := Aside0.mk (blk_drew BK1032.out)
         have n3_ := Aside0.mk (below_drew1 HB.out)
         clear HO_4
         clear BK1031
         clear BK1032
         clear HB
         have HO_4 := n0_
         have BK1031 := n1_
         have BK1032 := n2_
         have HB := n3_
         clear n0_ n1_ n2_ n3_
         obtain ⟨Ao20, co20, eo20⟩ := Kd.R_slice HO_4.out
         (first | subst eo20 | (injection eo20 with f1_ f2_ f3_; have f4_ := f1_.symm; have f5_ := f3_.symm; clear f1_ f2_ f3_; subst f4_; subst f5_))
         have p1036 : 0 ≤ (x7_1 : Int) := dA
         have q1036 : x7_1 < (y1033.length : Int) := dA
         obtain ⟨ad1036, e1036, hx1036_0⟩ := Kd.at_int (Kd.R_reads' HO_4.out).2.2 x7_1 p1036 q1036
         cases e1036
         replace p1036 := eq_true p1036
         replace q1036 := eq_true q1036
         have p1037 : 0 ≤ (x7_1 : Int) := dA
         have q1037 : x7_1 < (y1033.length : Int) := dA
         obtain ⟨ad1037, e1037, hx1037_0⟩ := Kd.at_int (Kd.R_reads' HO_4.out).2.2 x7_1 p1037 q1037
         obtain rfl : ad1036 = ad1037 := (by injection e1037)
         replace p1037 := eq_true p1037
         replace q1037 := eq_true q1037
         refine start_ (n := 13) (S := fun w' => w'.cell? (ad1036.add (x7_1).toNat) = some (.int .i64 (rd y1033 x7_1)) ∧ w'.cell? (ad1036.add (x7_1).toNat) = some (.int .i64 (rd y1033 x7_1))) (ds := []) #[Z, Z, Z, Z, Z, Z, Z, Z, Z, Z, Z, Z, Z] (by kernel_rfl) rfl rfl ⟨hx1036_0, hx1037_0⟩ (fun hHeld => ?_); refine with_tabW spec_l04Reduce.tab6 spec_l04Reduce.bits6 (fun HT_ HW_ => ?_)
         generalize wr.drew = w19 at HO_4 BK1031 BK1032 HB hx1036_0 hx1037_0 hHeld ⊢
         refine puA (i := 0) (N := some 27) #[Y, Z, Z, Z, Z, Z, Z, Z, Z, Z, Z, Z, Z] rfl rfl HT_ ?_
         refine puA (i := 1) (N := some 28) #[Y, Y, Z, Z, Z, Z, Z, Z, Z, Z, Z, Z, Z] rfl rfl HT_ ?_
         refine puA (i := 2) (N := some 29) #[Y, Y, Y, Z, Z, Z, Z, Z, Z, Z, Z, Z, Z] rfl rfl HT_ ?_
         refine puA (i := 3) (N := some 30) #[Y, Y, Y, Y, Z, Z, Z, Z, Z, Z, Z, Z, Z] rfl rfl HT_ ?_
         refine puA (i := 5) (N := some 32) #[Y, Y, Y, Y, Z, Y, Z, Z, Z, Z, Z, Z, Z] rfl rfl HT_ ?_
         refine puA (i := 6) (N := some 33) #[Y, Y, Y, Y, Z, Y, Y, Z, Z, Z, Z, Z, Z] rfl rfl HT_ ?_
         refine puA (i := 7) (N := some 34) #[Y, Y, Y, Y, Z, Y, Y, Y, Z, Z, Z, Z, Z] rfl rfl HT_ ?_
         refine take_ (i := 4) (N := some 31) (v := ?_) (a' := ?_) #[Y, Y, Y, Y, Y, Y, Y, Y, Z, Z, Z, Z, Z] rfl rfl (take_ofW HT_.out HW_.out (by kernel_rfl)) (fun _ _ _ h => h) (Or.inl ⟨by rfl, ?_⟩) hHeld ?_ ?_
         rotate_left
         ·
          rintro w' ⟨s0, s1⟩
          go_simp
          with_reducible rfl
         rotate_left
         ·
          simp only [pA]
          rfl
         refine take_ (i := 8) (N := some 35) (v := ?_) (a' := ?_) #[Y, Y, Y, Y, Y, Y, Y, Y, Y, Z, Z, Z, Z] rfl rfl (take_ofW HT_.out HW_.out (by kernel_rfl)) (fun _ _ _ h => h) (Or.inl ⟨by rfl, ?_⟩) hHeld ?_ ?_
         rotate_left
         ·
          rintro w' ⟨s0, s1⟩
          go_simp
          with_reducible rfl
         rotate_left
         ·
          simp only [pA]
          rfl
         refine puA (i := 9) (N := some 36) #[Y, Y, Y, Y, Y, Y, Y, Y, Y, Y, Z, Z, Z] rfl rfl HT_ ?_
         refine puA (i := 10) (N := some 37) #[Y, Y, Y, Y, Y, Y, Y, Y, Y, Y, Y, Z, Z] rfl rfl HT_ ?_
         refine one_ (i := 11) (N := some 38) #[Y, Y, Y, Y, Y, Y, Y, Y, Y, Y, Y, Y, Z] rfl rfl (one_of HT_.out (by kernel_rfl)) (by decide) (fun K hK => ?_)
         refine goes_ Try.func131 (by kernel_rfl) rfl #[.int .i64 x5_1, .int .i64 ji11] (by rfl) rfl rfl (by (try simp only [List.map_toArray, List.map_cons, List.map_nil]); first | done | (simp only [hji11]; rfl) | rfl | (simp only [List.length_drop, List.length_take]; rfl)) ?_
         with_reducible refine (spec_l01Gcd.calls k1 x5_1 ji11 t1038 _ A12.out).mono ?_
         rintro e w21 ⟨rfl, hb⟩
         have HS0_ := (hb.cell (World.block_lt_of_cell? _ _ (hHeld.1))).trans (hHeld.1)
         have HS1_ := (hb.cell (World.block_lt_of_cell? _ _ (hHeld.2))).trans (hHeld.2)
         refine ⟨_, rfl, ?_⟩
         replace HO_4 := Aside0.mk (Kd.R_below (rA HO_4) hb)
         replace BK1031 := kB BK1031 hb
         replace BK1032 := kB BK1032 hb
         replace HB := lB hb
         (try clear hb)
         (try clear hb2)
         (try clear hk)
         (try clear hi)
         refine hK.out _ _ ⟨HS0_, HS1_⟩ (fun hHeld => ?_)
         clear hK K
         refine norm_ (a' := ?_) ?_ ?_
         rotate_left
         ·
          show Act.put _ (some 38) _ = _
          simp only [pA]
          rfl
         refine puA (i := 12) (N := some 5) #[Y, Y, Y, Y, Y, Y, Y, Y, Y, Y, Y, Y, Y] rfl rfl HT_ ?_
         refine done_ (done_of HT_.out (by kernel_rfl)) ?_
         have p1039 : 0 ≤ (x7_1 : Int) := dA
         have q1039 : x7_1 < (y1033.length : Int) := dA
         obtain ⟨ad1039, e1039, hx1039_0⟩ := Kd.at_int (Kd.R_reads' HO_4.out).2.2 x7_1 p1039 q1039
         obtain rfl : ad1036 = ad1039 := (by injection e1039)
         replace p1039 := eq_true p1039
         replace q1039 := eq_true q1039
         try go_wp2
         have n0_ := Aside0.mk (Kd.R_drew HO_4.out)
         have n1_ := Aside0.mk (blk_drew BK1031.out)
         have n2_ := Aside0.mk (blk_drew BK1032.out)
         have n3_ := Aside0.mk (below_drew1 HB.out)
         clear HO_4
         clear BK1031
         clear BK1032
         clear HB
         have HO_4 := n0_
         have BK1031 := n1_
         have BK1032 := n2_
         have HB := n3_
         clear n0_ n1_ n2_ n3_
         have p1040 : 0 ≤ (x7_1 : Int) := dA
         have q1040 : x7_1 < (y1033.length : Int) := dA
         obtain ⟨ad1040, e1040, hx1040_0⟩ := Kd.at_int (Kd.R_reads' HO_4.out).2.2 x7_1 p1040 q1040
         obtain rfl : ad1036 = ad1040 := (by injection e1040)
         replace p1040 := eq_true p1040
         replace q1040 := eq_true q1040
         have p1041 : 0 ≤ (x7_1 : Int) := dA
         have q1041 : x7_1 < (y1033.length : Int) := dA
         obtain ⟨ad1041, e1041, hx1041_0⟩ := Kd.at_int (Kd.R_reads' HO_4.out).2.2 x7_1 p1041 q1041
         obtain rfl : ad1036 = ad1041 := (by injection e1041)
         replace p1041 := eq_true p1041
         replace q1041 := eq_true q1041
         have p1042 : 0 ≤ (x7_1 : Int) := dA
         have q1042 : x7_1 < (y1033.length : Int) := dA
         obtain ⟨ad1042, e1042, hx1042_0⟩ := Kd.at_int (Kd.R_reads' HO_4.out).2.2 x7_1 p1042 q1042
         obtain rfl : ad1036 = ad1042 := (by injection e1042)
         replace p1042 := eq_true p1042
         replace q1042 := eq_true q1042
         refine start_ (n := 16) (S := fun w' => w'.cell? (ad1036.add (x7_1).toNat) = some (.int .i64 (rd y1033 x7_1)) ∧ w'.cell? (ad1036.add (x7_1).toNat) = some (.int .i64 (rd y1033 x7_1)) ∧ w'.cell? (ad1036.add (x7_1).toNat) = some (.int .i64 (rd y1033 x7_1))) (ds := []) #[Z, Z, Z, Z, Z, Z, Z, Z, Z, Z, Z, Z, Z, Z, Z, Z] (by kernel_rfl) rfl rfl ⟨hx1040_0, hx1041_0, hx1042_0⟩ (fun hHeld => ?_); refine with_tabW spec_l04Reduce.tab8 spec_l04Reduce.bits8 (fun HT_ HW_ => ?_)
         generalize w21.drew = w22 at HO_4 BK1031 BK1032 HB hx1040_0 hx1041_0 hx1042_0 hHeld ⊢
         refine puA (i := 0) (N := some 48) #[Y, Z, Z, Z, Z, Z, Z, Z, Z, Z, Z, Z, Z, Z, Z, Z] rfl rfl HT_ ?_
         refine puA (i := 1) (N := some 49) #[Y, Y, Z, Z, Z, Z, Z, Z, Z, Z, Z, Z, Z, Z, Z, Z] rfl rfl HT_ ?_
         refine puA (i := 2) (N := some 50) #[Y, Y, Y, Z, Z, Z, Z, Z, Z, Z, Z, Z, Z, Z, Z, Z] rfl rfl HT_ ?_
         refine puA (i := 4) (N := some 52) #[Y, Y, Y, Z, Y, Z, Z, Z, Z, Z, Z, Z, Z, Z, Z, Z] rfl rfl HT_ ?_
         refine puA (i := 5) (N := some 53) #[Y, Y, Y, Z, Y, Y, Z, Z, Z, Z, Z, Z, Z, Z, Z, Z] rfl rfl HT_ ?_
         refine puA (i := 6) (N := some 54) #[Y, Y, Y, Z, Y, Y, Y, Z, Z, Z, Z, Z, Z, Z, Z, Z] rfl rfl HT_ ?_
         refine puA (i := 8) (N := some 56) #[Y, Y, Y, Z, Y, Y, Y, Z, Y, Z, Z, Z, Z, Z, Z, Z] rfl rfl HT_ ?_
         refine puA (i := 9) (N := some 57) #[Y, Y, Y, Z, Y, Y, Y, Z, Y, Y, Z, Z, Z, Z, Z, Z] rfl rfl HT_ ?_
         refine puA (i := 10) (N := some 58) #[Y, Y, Y, Z, Y, Y, Y, Z, Y, Y, Y, Z, Z, Z, Z, Z] rfl rfl HT_ ?_
         refine take_ (i := 3) (N := some 51) (v := ?_) (a' := ?_) #[Y, Y, Y, Y, Y, Y, Y, Z, Y, Y, Y, Z, Z, Z, Z, Z] rfl rfl (take_ofW HT_.out HW_.out (by kernel_rfl)) (fun _ _ _ h => h) (Or.inl ⟨by rfl, ?_⟩) hHeld ?_ ?_
         rotate_left
         ·
          rintro w' ⟨s0, s1, s2⟩
          go_simp
          with_reducible rfl
         rotate_left
         ·
          simp only [pA]
          rfl
         refine take_ (i := 7) (N := some 55) (v := ?_) (a' := ?_) #[Y, Y, Y, Y, Y, Y, Y, Y, Y, Y, Y, Z, Z, Z, Z, Z] rfl rfl (take_ofW HT_.out HW_.out (by kernel_rfl)) (fun _ _ _ h => h) (Or.inl ⟨by rfl, ?_⟩) hHeld ?_ ?_
         rotate_left
         ·
          rintro w' ⟨s0, s1, s2⟩
          go_simp
          with_reducible rfl
         rotate_left
         ·
          simp only [pA]
          rfl
         refine take_ (i := 11) (N := some 59) (v := ?_) (a' := ?_) #[Y, Y, Y, Y, Y, Y, Y, Y, Y, Y, Y, Y, Z, Z, Z, Z] rfl rfl (take_ofW HT_.out HW_.out (by kernel_rfl)) (fun _ _ _ h => h) (Or.inl ⟨by rfl, ?_⟩) hHeld ?_ ?_
         rotate_left
         ·
          rintro w' ⟨s0, s1, s2⟩
          go_simp
          with_reducible rfl
         rotate_left
         ·
          simp only [pA]
          rfl
         refine puA (i := 12) (N := some 60) #[Y, Y, Y, Y, Y, Y, Y, Y, Y, Y, Y, Y, Y, Z, Z, Z] rfl rfl HT_ ?_
         refine puA (i := 13) (N := some 61) #[Y, Y, Y, Y, Y, Y, Y, Y, Y, Y, Y, Y, Y, Y, Z, Z] rfl rfl HT_ ?_
         refine puA (i := 14) (N := some 62) #[Y, Y, Y, Y, Y, Y, Y, Y, Y, Y, Y, Y, Y, Y, Y, Z] rfl rfl HT_ ?_
         refine puA (i := 15) (N := some 6) #[Y, Y, Y, Y, Y, Y, Y, Y, Y, Y, Y, Y, Y, Y, Y, Y] rfl rfl HT_ ?_
         refine done_ (done_of HT_.out (by kernel_rfl)) ?_
         try go_wp2
         go_roundg k1
         case measure => have := HK1.out; omega
         case rel => exact ⟨(t1038), (wrap64 (Int.tdiv (rd y1033 x7_1) (ji11))), (wrap64 (x7_1 + 1)), hB, (by first | rfl | (simp; done) | (simp only [← hji11] <;> (first | rfl | simp)) | (simp [*]; done)), hB, H', ⟨by have := HK1.out; omega⟩, ⟨rA HO_4⟩, ⟨bkA BK1031⟩, ⟨bkA BK1032⟩, ⟨blA⟩⟩
      ·
       rw [if_neg c13] at H
       have c13b0 : (x6_1 == 0) = false := beq_eq_false_iff_ne.mpr c13
       have c13b1 : (x6_1 != 0) = true := bne_iff_ne.mpr c13
       have H' := Aside0.mk H
       clear H
       try go_wp2
       have n0_ := Aside0.mk (Kd.R_drew HO_4.out)
       have n1_ := Aside0.mk (blk_drew BK1031.out)
       have n2_ := Aside0.mk (blk_drew BK1032.out)
       have n3_ := Aside0.mk (below_drew1 HB.out)
       clear HO_4
       clear BK1031
       clear BK1032
       clear HB
       have HO_4 := n0_
       have BK1031 := n1_
       have BK1032 := n2_
       have HB := n3_
       clear n0_ n1_ n2_ n3_
       obtain ⟨Ao24, co24, eo24⟩ := Kd.R_slice HO_4.out
       (first | subst eo24 | (injection eo24 with f1_ f2_ f3_; have f4_ := f1_.symm; have f5_ := f3_.symm; clear f1_ f2_ f3_; subst f4_; subst f5_))
       have p1036 : 0 ≤ (x7_1 : Int) := dA
       have q1036 : x7_1 < (y1033.length : Int) := dA
       obtain ⟨ad1036, e1036, hx1036_0⟩ := Kd.at_int (Kd.R_reads' HO_4.out).2.2 x7_1 p1036 q1036
       cases e1036
       replace p1036 := eq_true p1036
       replace q1036 := eq_true q1036
       have p1037 : 0 ≤ (x7_1 : Int) := dA
       have q1037 : x7_1 < (y1033.length : Int) := dA
       obtain ⟨ad1037, e1037, hx1037_0⟩ := Kd.at_int (Kd.R_reads' HO_4.out).2.2 x7_1 p1037 q1037
       obtain rfl : ad1036 = ad1037 := (by injection e1037)
       replace p1037 := eq_true p1037
       replace q1037 := eq_true q1037
       refine start_ (n := 13) (S := fun w' => w'.cell? (ad1036.add (x7_1).toNat) = some (.int .i64 (rd y1033 x7_1)) ∧ w'.cell? (ad1036.add (x7_1).toNat) = some (.int .i64 (rd y1033 x7_1))) (ds := []) #[Z, Z, Z, Z, Z, Z, Z, Z, Z, Z, Z, Z, Z] (by kernel_rfl) rfl rfl ⟨hx1036_0, hx1037_0⟩ (fun hHeld => ?_); refine with_tabW spec_l04Reduce.tab6 spec_l04Reduce.bits6 (fun HT_ HW_ => ?_)
       generalize wr.drew = w23 at HO_4 BK1031 BK1032 HB hx1036_0 hx1037_0 hHeld ⊢
       refine puA (i := 0) (N := some 27) #[Y, Z, Z, Z, Z, Z, Z, Z, Z, Z, Z, Z, Z] rfl rfl HT_ ?_
       refine puA (i := 1) (N := some 28) #[Y, Y, Z, Z, Z, Z, Z, Z, Z, Z, Z, Z, Z] rfl rfl HT_ ?_
       refine puA (i := 2) (N := some 29) #[Y, Y, Y, Z, Z, Z, Z, Z, Z, Z, Z, Z, Z] rfl rfl HT_ ?_
       refine puA (i := 3) (N := some 30) #[Y, Y, Y, Y, Z, Z, Z, Z, Z, Z, Z, Z, Z] rfl rfl HT_ ?_
       refine puA (i := 5) (N := some 32) #[Y, Y, Y, Y, Z, Y, Z, Z, Z, Z, Z, Z, Z] rfl rfl HT_ ?_
       refine puA (i := 6) (N := some 33) #[Y, Y, Y, Y, Z, Y, Y, Z, Z, Z, Z, Z, Z] rfl rfl HT_ ?_
       refine puA (i := 7) (N := some 34) #[Y, Y, Y, Y, Z, Y, Y, Y, Z, Z, Z, Z, Z] rfl rfl HT_ ?_
       refine take_ (i := 4) (N := some 31) (v := ?_) (a' := ?_) #[Y, Y, Y, Y, Y, Y, Y, Y, Z, Z, Z, Z, Z] rfl rfl (take_ofW HT_.out HW_.out (by kernel_rfl)) (fun _ _ _ h => h) (Or.inl ⟨by rfl, ?_⟩) hHeld ?_ ?_
       rotate_left
       ·
        rintro w' ⟨s0, s1⟩
        go_simp
        with_reducible rfl
       rotate_left
       ·
        simp only [pA]
        rfl
       refine take_ (i := 8) (N := some 35) (v := ?_) (a' := ?_) #[Y, Y, Y, Y, Y, Y, Y, Y, Y, Z, Z, Z, Z] rfl rfl (take_ofW HT_.out HW_.out (by kernel_rfl)) (fun _ _ _ h => h) (Or.inl ⟨by rfl, ?_⟩) hHeld ?_ ?_
       rotate_left
       ·
        rintro w' ⟨s0, s1⟩
        go_simp
        with_reducible rfl
       rotate_left
       ·
        simp only [pA]
        rfl
       refine puA (i := 9) (N := some 36) #[Y, Y, Y, Y, Y, Y, Y, Y, Y, Y, Z, Z, Z] rfl rfl HT_ ?_
       refine puA (i := 10) (N := some 37) #[Y, Y, Y, Y, Y, Y, Y, Y, Y, Y, Y, Z, Z] rfl rfl HT_ ?_
       refine one_ (i := 11) (N := some 38) #[Y, Y, Y, Y, Y, Y, Y, Y, Y, Y, Y, Y, Z] rfl rfl (one_of HT_.out (by kernel_rfl)) (by decide) (fun K hK => ?_)
       refine goes_ Try.func131 (by kernel_rfl) rfl #[.int .i64 x5_1, .int .i64 ji11] (by rfl) rfl rfl (by (try simp only [List.map_toArray, List.map_cons, List.map_nil]); first | done | (simp only [hji11]; rfl) | rfl | (simp only [List.length_drop, List.length_take]; rfl)) ?_
       with_reducible refine (spec_l01Gcd.calls k1 x5_1 ji11 t1038 _ A12.out).mono ?_
       rintro e w25 ⟨rfl, hb⟩
       have HS0_ := (hb.cell (World.block_lt_of_cell? _ _ (hHeld.1))).trans (hHeld.1)
       have HS1_ := (hb.cell (World.block_lt_of_cell? _ _ (hHeld.2))).trans (hHeld.2)
       refine ⟨_, rfl, ?_⟩
       replace HO_4 := Aside0.mk (Kd.R_below (rA HO_4) hb)
       replace BK1031 := kB BK1031 hb
       replace BK1032 := kB BK1032 hb
       replace HB := lB hb
       (try clear hb)
       (try clear hb2)
       (try clear hk)
       (try clear hi)
       refine hK.out _ _ ⟨HS0_, HS1_⟩ (fun hHeld => ?_)
       clear hK K
       refine norm_ (a' := ?_) ?_ ?_
       rotate_left
       ·
        show Act.put _ (some 38) _ = _
        simp only [pA]
        rfl
       refine puA (i := 12) (N := some 5) #[Y, Y, Y, Y, Y, Y, Y, Y, Y, Y, Y, Y, Y] rfl rfl HT_ ?_
       refine done_ (done_of HT_.out (by kernel_rfl)) ?_
       try go_wp2
       go_roundg k1
       case measure => have := HK1.out; omega
       case rel => exact ⟨(t1038), (x6_1), (wrap64 (x7_1 + 1)), hB, hB, hB, H', ⟨by have := HK1.out; omega⟩, ⟨rA HO_4⟩, ⟨bkA BK1031⟩, ⟨bkA BK1032⟩, ⟨blA⟩⟩
     ·
      rw [if_neg c10] at H
      exact absurd H (by simp)
    ·
     rw [if_neg c9] at H
     exact absurd H (by simp)
   ·
    rw [if_neg c8] at H
    have c8b0 := decide_eq_false c8
    clear c8
    obtain ⟨ji26, hji26⟩ : ∃ j_ : Int, (mx x5_1 (wrap64 (-x5_1))) = j_ := ⟨_, rfl⟩
    replace H : (spec_l04Reduce.l1 k1 y1033 ji26 x6_1 true 0) = some (r1, r2, r3, r4, r5) := by first | (rw [hji26] at H; exact H) | (simp only [hji26] at H ⊢; exact H)
    have hji26_ : (if x5_1 < (wrap64 (-x5_1)) then (wrap64 (-x5_1)) else x5_1) = ji26 := hji26
    have H' := Aside0.mk H
    clear H
    go_wp2
    go_loopg [8, 9] k1 (fun kq v8 v9 w' => ∃ (x4_2 : List Int) (x8_2 : Bool) (x9_2 : Int), v8 = .bool x8_2 ∧ v9 = .int .i64 x9_2 ∧ Aside0 (spec_l04Reduce.l1 kq x4_2 ji26 x6_1 x8_2 x9_2 = some (r1, r2, r3, r4, r5)) ∧ Aside0 (kq ≤ k1) ∧ Aside0 (Kd.R (Kd.int .i64) 2 w' w.heap.size (fun _ => True) v1034 x4_2) ∧ Aside0 (w'.heap[gb1031]? = some (.cells #[.int .i64 a0_0, .int .i64 a0_1, .int .i64 a0_2, .int .i64 a0_3] 26 (0, 0))) ∧ Aside0 (w'.heap[gb1032]? = some (.cells #[.int .i64 0, .int .i64 0, .int .i64 0, .int .i64 0] 26 (0, 0))) ∧ Aside0 (Below w.heap.size w w'))
    case atStart => exact ⟨(y1033), (true), (0), hB, hB, H', ⟨Nat.le_refl _⟩, ⟨rA HO_4⟩, ⟨bkA BK1031⟩, ⟨bkA BK1032⟩, ⟨blA⟩⟩
    case round =>
     clear H'
     try clear c8
     try clear c8b0
     try clear c9
     try clear c10
     try clear c13
     try clear c13b0
     try clear c13b1
     try clear c14
     try clear c14b0
     try clear c14b1
     try clear c18
     try clear c18b0
     try clear c18b1
     try clear hx1036_0
     try clear hx1037_0
     try clear hx1039_0
     try clear hx1040_0
     try clear hx1041_0
     try clear hx1042_0
     try clear p1036
     try clear p1037
     try clear p1039
     try clear p1040
     try clear p1041
     try clear p1042
     try clear q1036
     try clear q1037
     try clear q1039
     try clear q1040
     try clear q1041
     try clear q1042
     obtain ⟨x4_2, x8_2, x9_2, rfl, rfl, HA, HK2, HO_4, BK1031, BK1032, HB⟩ := hrel
     cases gk with
     | zero => exact absurd HA.out (by simp [spec_l04Reduce.l1])
     | succ k2 =>
      have H := HA.out
      clear HA
      simp only [spec_l04Reduce.l1] at H
      by_cases c27 : x9_2 < 4
      ·
       rw [if_pos c27] at H
       have c27b0 := decide_eq_true c27
       clear c27
       by_cases c28 : 0 ≤ x9_2
       ·
        rw [if_pos c28] at H
        have c28b0 := decide_eq_true c28
        clear c28
        by_cases c29 : x9_2 < (x4_2.length : Int)
        ·
         rw [if_pos c29] at H
         have c29b0 := decide_eq_true c29
         clear c29
         by_cases c30 : ji26 = 0
         ·
          rw [if_pos c30] at H
          exact absurd H (by simp)
         ·
          rw [if_neg c30] at H
          have c30b0 : (ji26 == 0) = false := beq_eq_false_iff_ne.mpr c30
          have c30b1 : (ji26 != 0) = true := bne_iff_ne.mpr c30
          obtain ⟨y1044, hy1044⟩ : ∃ y_ : List Int, y_ = (x4_2.set (x9_2 : Int).toNat (wrap64 ((wrap64 (Int.tdiv (rd x4_2 x9_2) ji26)) * x6_1))) := ⟨_, rfl⟩
          replace H : (if x8_2 = true then ((spec_l01In.f (rd y1044 x9_2) (-1000) 1000).bind fun t1046 => (spec_l04Reduce.l1 k2 y1044 ji26 x6_1 t1046 (wrap64 (x9_2 + 1)))) else (spec_l04Reduce.l1 k2 y1044 ji26 x6_1 false (wrap64 (x9_2 + 1)))) = some (r1, r2, r3, r4, r5) := by first | (rw [hy1044]; with_reducible exact H) | (have H2_ := (Option.bind_some _ _).symm.trans H; rw [hy1044]; with_reducible exact H2_) | (have H2_ := (Option.bind_some _ _).symm.trans H; with_reducible exact H2_) | with_reducible exact H | (rw [hy1044]; exact H) | exact H
          have Ny1044 := Aside0.mk hy1044
          clear hy1044
          by_cases c32 : x8_2 = true
          ·
           subst c32
           rw [if_pos rfl] at H
           try dsimp only at H
           replace H := bS H
           obtain ⟨t1046, A33, H⟩ := H
           try dsimp only at H
           have H' := Aside0.mk H
           clear H
           obtain ⟨Ao34, co34, eo34⟩ := Kd.R_slice HO_4.out
           subst eo34
           have p1043 : 0 ≤ (x9_2 : Int) := dA
           have q1043 : x9_2 < (x4_2.length : Int) := dA
           obtain ⟨ad1043, e1043, hx1043_0⟩ := Kd.at_int (Kd.R_reads' HO_4.out).2.2 x9_2 p1043 q1043
           cases e1043
           replace p1043 := eq_true p1043
           replace q1043 := eq_true q1043
           have p31 : 0 ≤ (x9_2 : Int) := dA
           have q31 : (x9_2 : Int) < ((x4_2.length : Int) : Int) := dA
           obtain ⟨go31, co31, eo31, gb31, gl31, cl31, HG31⟩ := Kd.R_form HO_4.out (by omega)
           (first | cases eo31 | (injection eo31 with ea_ en_ ec_; (first | subst ea_ | (injection ea_ with ea_; subst ea_)); subst ec_; clear en_))
           have GB31 := Aside0.mk gb31
           have GG31 := Aside0.mk HG31
           clear gb31 gl31 HG31
           (first | simp only [add_plain] at hx1043_0 | skip)
           obtain ⟨hx31_0, hf31_0⟩ := Kd.R_celln 0 HO_4.out (x9_2 : Int) p31 q31
           replace p31 := eq_true p31
           replace q31 := eq_true q31
           have HP35 := Kd.R_putg HO_4.out (x9_2 : Int) (wrap64 ((wrap64 (Int.tdiv (rd x4_2 x9_2) ji26)) * x6_1))
           go_wp2_with (first | ((with_reducible refine gate_store (t := 2) (p := 81) rfl ?_); refine store_event (t := 2) (p := 81) (v := ?vo_w36) (w1 := (wr.setCell ⟨go31, (x9_2 : Int).toNat, none⟩ (.int .i64 (wrap64 ((wrap64 (Int.tdiv (rd x4_2 x9_2) ji26)) * x6_1))))) ?hg ?ho ?hn ?hr ?_; (case ho => rfl); (case hg => rfl); (case hn => rfl); (case hr => first | (go_simp; done) | (go_simp; rfl)); intro w36 hw; have hg : wr.grownBy w36 (some go31) := (by rw [hw]; exact HP35.2); have hp_ : Kd.R (Kd.int .i64) 2 w36 w.heap.size (fun _ => True) (.slice (some ⟨go31, 0, none⟩) x4_2.length co34) y1044 := (by rw [hw, Ny1044.out]; exact HP35.1); clear HP35; have n0_ := Aside0.mk (hp_); have n1_ := Aside0.mk (blk_grown (bkA BK1031) hg (Kd.R_ne HO_4.out BK1031.out (by decide))); have n2_ := Aside0.mk (blk_grown (bkA BK1032) hg (Kd.R_ne HO_4.out BK1032.out (by decide))); have n3_ := Aside0.mk ((by rw [hw]; exact below_set (HB.out) GB31.out : Below w.heap.size w w36)); clear HO_4; clear BK1031; clear BK1032; clear HB; have HO_4 := n0_; have BK1031 := n1_; have BK1032 := n2_; have HB := n3_; clear n0_ n1_ n2_ n3_; clear hg hw hp_; have p1045 : 0 ≤ (x9_2 : Int) := dA; have q1045 : x9_2 < (y1044.length : Int) := (by have h_ : (x9_2 : Int) < ((x4_2.length : Int) : Int) := dA; first | (have e_ := (Kd.R_reads' HO_4.out).1; omega) | simpa only [Ny1044.out, List.length_set] using h_); have ql1045 : ((x9_2 : Int) < ((x4_2.length : Int) : Int)) = True := eq_true (dA); obtain ⟨ad1045, e1045, hx1045_0⟩ := Kd.at_int (Kd.R_reads' HO_4.out).2.2 x9_2 p1045 q1045; obtain rfl : (⟨go31, 0, none⟩ : Addr) = ad1045 := (by injection e1045); (first | simp only [add_plain] at hx1045_0 | simp only [add_at] at hx1045_0 | simp only [Addr.add, Nat.zero_add] at hx1045_0 | skip); replace p1045 := eq_true p1045; replace q1045 := eq_true q1045) | (go_at_call 71; (with_reducible refine (spec_l01In.calls (rd y1044 x9_2) (-1000) 1000 t1046 _ A33.out).mono ?_); rintro e w' ⟨rfl, ⟨nd, rfl⟩⟩))
           go_roundg k2
           case measure => have := HK1.out; have := HK2.out; omega
           case rel => exact ⟨(y1044), (t1046), (wrap64 (x9_2 + 1)), hB, hB, H', ⟨by have := HK1.out; have := HK2.out; omega⟩, ⟨rA HO_4⟩, ⟨bkA BK1031⟩, ⟨bkA BK1032⟩, ⟨blA⟩⟩
          ·
           replace c32 := Bool.eq_false_iff.mpr c32
           subst c32
           rw [if_neg (show ¬ (false = true) by decide)] at H
           try dsimp only at H
           have H' := Aside0.mk H
           clear H
           obtain ⟨Ao37, co37, eo37⟩ := Kd.R_slice HO_4.out
           subst eo37
           have p1043 : 0 ≤ (x9_2 : Int) := dA
           have q1043 : x9_2 < (x4_2.length : Int) := dA
           obtain ⟨ad1043, e1043, hx1043_0⟩ := Kd.at_int (Kd.R_reads' HO_4.out).2.2 x9_2 p1043 q1043
           cases e1043
           replace p1043 := eq_true p1043
           replace q1043 := eq_true q1043
           have p31 : 0 ≤ (x9_2 : Int) := dA
           have q31 : (x9_2 : Int) < ((x4_2.length : Int) : Int) := dA
           obtain ⟨go31, co31, eo31, gb31, gl31, cl31, HG31⟩ := Kd.R_form HO_4.out (by omega)
           (first | cases eo31 | (injection eo31 with ea_ en_ ec_; (first | subst ea_ | (injection ea_ with ea_; subst ea_)); subst ec_; clear en_))
           have GB31 := Aside0.mk gb31
           have GG31 := Aside0.mk HG31
           clear gb31 gl31 HG31
           (first | simp only [add_plain] at hx1043_0 | skip)
           obtain ⟨hx31_0, hf31_0⟩ := Kd.R_celln 0 HO_4.out (x9_2 : Int) p31 q31
           replace p31 := eq_true p31
           replace q31 := eq_true q31
           have HP38 := Kd.R_putg HO_4.out (x9_2 : Int) (wrap64 ((wrap64 (Int.tdiv (rd x4_2 x9_2) ji26)) * x6_1))
           go_wp2_with (first | ((with_reducible refine gate_store (t := 2) (p := 81) rfl ?_); refine store_event (t := 2) (p := 81) (v := ?vo_w39) (w1 := (wr.setCell ⟨go31, (x9_2 : Int).toNat, none⟩ (.int .i64 (wrap64 ((wrap64 (Int.tdiv (rd x4_2 x9_2) ji26)) * x6_1))))) ?hg ?ho ?hn ?hr ?_; (case ho => rfl); (case hg => rfl); (case hn => rfl); (case hr => first | (go_simp; done) | (go_simp; rfl)); intro w39 hw; have hg : wr.grownBy w39 (some go31) := (by rw [hw]; exact HP38.2); have hp_ : Kd.R (Kd.int .i64) 2 w39 w.heap.size (fun _ => True) (.slice (some ⟨go31, 0, none⟩) x4_2.length co37) y1044 := (by rw [hw, Ny1044.out]; exact HP38.1); clear HP38; have n0_ := Aside0.mk (hp_); have n1_ := Aside0.mk (blk_grown (bkA BK1031) hg (Kd.R_ne HO_4.out BK1031.out (by decide))); have n2_ := Aside0.mk (blk_grown (bkA BK1032) hg (Kd.R_ne HO_4.out BK1032.out (by decide))); have n3_ := Aside0.mk ((by rw [hw]; exact below_set (HB.out) GB31.out : Below w.heap.size w w39)); clear HO_4; clear BK1031; clear BK1032; clear HB; have HO_4 := n0_; have BK1031 := n1_; have BK1032 := n2_; have HB := n3_; clear n0_ n1_ n2_ n3_; clear hg hw hp_))
           go_roundg k2
           case measure => have := HK1.out; have := HK2.out; omega
           case rel => exact ⟨(y1044), (false), (wrap64 (x9_2 + 1)), hB, hB, H', ⟨by have := HK1.out; have := HK2.out; omega⟩, ⟨rA HO_4⟩, ⟨bkA BK1031⟩, ⟨bkA BK1032⟩, ⟨blA⟩⟩
        ·
         rw [if_neg c29] at H
         exact absurd H (by simp)
       ·
        rw [if_neg c28] at H
        exact absurd H (by simp)
      ·
       rw [if_neg c27] at H
       have c27b0 := decide_eq_false c27
       clear c27
       by_cases c40 : 0 < (x4_2.length : Int)
       ·
        rw [if_pos c40] at H
        have c40b0 := decide_eq_true c40
        have c40b1 : decide (0 < x4_2.length) = true := decide_eq_true (by omega)
        clear c40
        by_cases c41 : 1 < (x4_2.length : Int)
        ·
         rw [if_pos c41] at H
         have c41b0 := decide_eq_true c41
         have c41b1 : decide (1 < x4_2.length) = true := decide_eq_true (by omega)
         clear c41
         by_cases c42 : 2 < (x4_2.length : Int)
         ·
          rw [if_pos c42] at H
          have c42b0 := decide_eq_true c42
          have c42b1 : decide (2 < x4_2.length) = true := decide_eq_true (by omega)
          clear c42
          by_cases c43 : 3 < (x4_2.length : Int)
          ·
           rw [if_pos c43] at H
           have c43b0 := decide_eq_true c43
           have c43b1 : decide (3 < x4_2.length) = true := decide_eq_true (by omega)
           clear c43
           simp only [Option.some.injEq, Prod.mk.injEq] at H
           obtain ⟨rfl, rfl, rfl, rfl, rfl⟩ := H
           try go_wp2
           have n0_ := Aside0.mk (Kd.R_drew HO_4.out)
           have n1_ := Aside0.mk (blk_drew BK1031.out)
           have n2_ := Aside0.mk (blk_drew BK1032.out)
           have n3_ := Aside0.mk (below_drew1 HB.out)
           clear HO_4
           clear BK1031
           clear BK1032
           clear HB
           have HO_4 := n0_
           have BK1031 := n1_
           have BK1032 := n2_
           have HB := n3_
           clear n0_ n1_ n2_ n3_
           obtain ⟨Ao45, co45, eo45⟩ := Kd.R_slice HO_4.out
           (first | subst eo45 | (injection eo45 with f1_ f2_ f3_; have f4_ := f1_.symm; have f5_ := f3_.symm; clear f1_ f2_ f3_; subst f4_; subst f5_))
           have p1047 : 0 ≤ (0 : Int) := (by omega)
           have q1047 : 0 < (x4_2.length : Int) := dA
           obtain ⟨ad1047, e1047, hx1047_0⟩ := Kd.at_int (Kd.R_reads' HO_4.out).2.2 0 p1047 q1047
           cases e1047
           have qi1047 : (0 < x4_2.length) = True := eq_true (by omega)
           (try rw [show ((0 : Int)).toNat = 0 from rfl] at hx1047_0)
           (try rw [Addr.add_zero'] at hx1047_0)
           replace p1047 := eq_true p1047
           replace q1047 := eq_true q1047
           have p1048 : 0 ≤ (1 : Int) := (by omega)
           have q1048 : 1 < (x4_2.length : Int) := dA
           obtain ⟨ad1048, e1048, hx1048_0⟩ := Kd.at_int (Kd.R_reads' HO_4.out).2.2 1 p1048 q1048
           obtain rfl : ad1047 = ad1048 := (by injection e1048)
           (try simp only [show (1 : Int).toNat = 1 from rfl, Nat.reduceMul, Nat.reduceEqDiff, Go.Addr.add, ↓reduceIte] at hx1048_0)
           have qi1048 : (1 < x4_2.length) = True := eq_true (by omega)
           (try rw [show ((1 : Int)).toNat = 1 from rfl] at hx1048_0)
           replace p1048 := eq_true p1048
           replace q1048 := eq_true q1048
           have p1049 : 0 ≤ (2 : Int) := (by omega)
           have q1049 : 2 < (x4_2.length : Int) := dA
           obtain ⟨ad1049, e1049, hx1049_0⟩ := Kd.at_int (Kd.R_reads' HO_4.out).2.2 2 p1049 q1049
           obtain rfl : ad1047 = ad1049 := (by injection e1049)
           (try simp only [show (2 : Int).toNat = 2 from rfl, Nat.reduceMul, Nat.reduceEqDiff, Go.Addr.add, ↓reduceIte] at hx1049_0)
           have qi1049 : (2 < x4_2.length) = True := eq_true (by omega)
           (try rw [show ((2 : Int)).toNat = 2 from rfl] at hx1049_0)
           replace p1049 := eq_true p1049
           replace q1049 := eq_true q1049
           have p1050 : 0 ≤ (3 : Int) := (by omega)
           have q1050 : 3 < (x4_2.length : Int) := dA
           obtain ⟨ad1050, e1050, hx1050_0⟩ := Kd.at_int (Kd.R_reads' HO_4.out).2.2 3 p1050 q1050
           obtain rfl : ad1047 = ad1050 := (by injection e1050)
           (try simp only [show (3 : Int).toNat = 3 from rfl, Nat.reduceMul, Nat.reduceEqDiff, Go.Addr.add, ↓reduceIte] at hx1050_0)
           have qi1050 : (3 < x4_2.length) = True := eq_true (by omega)
           (try rw [show ((3 : Int)).toNat = 3 from rfl] at hx1050_0)
           replace p1050 := eq_true p1050
           replace q1050 := eq_true q1050
           refine start_ (n := 18) (S := fun w' => w'.cell? ad1047 = some (.int .i64 (rd x4_2 0)) ∧ w'.cell? ⟨ad1047.block, ad1047.off + 1, none⟩ = some (.int .i64 (rd x4_2 1)) ∧ w'.cell? ⟨ad1047.block, ad1047.off + 2, none⟩ = some (.int .i64 (rd x4_2 2)) ∧ w'.cell? ⟨ad1047.block, ad1047.off + 3, none⟩ = some (.int .i64 (rd x4_2 3))) (ds := []) #[Z, Z, Z, Z, Z, Z, Z, Z, Z, Z, Z, Z, Z, Z, Z, Z, Z, Z] (by kernel_rfl) rfl rfl ⟨hx1047_0, hx1048_0, hx1049_0, hx1050_0⟩ (fun hHeld => ?_); refine with_tabW spec_l04Reduce.tab16 spec_l04Reduce.bits16 (fun HT_ HW_ => ?_)
           generalize wr.drew = w44 at HO_4 BK1031 BK1032 HB hx1047_0 hx1048_0 hx1049_0 hx1050_0 hHeld ⊢
           refine puA (i := 0) (N := some 90) #[Y, Z, Z, Z, Z, Z, Z, Z, Z, Z, Z, Z, Z, Z, Z, Z, Z, Z] rfl rfl HT_ ?_
           refine puA (i := 1) (N := some 91) #[Y, Y, Z, Z, Z, Z, Z, Z, Z, Z, Z, Z, Z, Z, Z, Z, Z, Z] rfl rfl HT_ ?_
           refine puA (i := 3) (N := some 93) #[Y, Y, Z, Y, Z, Z, Z, Z, Z, Z, Z, Z, Z, Z, Z, Z, Z, Z] rfl rfl HT_ ?_
           refine puA (i := 4) (N := some 94) #[Y, Y, Z, Y, Y, Z, Z, Z, Z, Z, Z, Z, Z, Z, Z, Z, Z, Z] rfl rfl HT_ ?_
           refine puA (i := 7) (N := some 97) #[Y, Y, Z, Y, Y, Z, Z, Y, Z, Z, Z, Z, Z, Z, Z, Z, Z, Z] rfl rfl HT_ ?_
           refine puA (i := 8) (N := some 98) #[Y, Y, Z, Y, Y, Z, Z, Y, Y, Z, Z, Z, Z, Z, Z, Z, Z, Z] rfl rfl HT_ ?_
           refine puA (i := 10) (N := some 100) #[Y, Y, Z, Y, Y, Z, Z, Y, Y, Z, Y, Z, Z, Z, Z, Z, Z, Z] rfl rfl HT_ ?_
           refine puA (i := 11) (N := some 101) #[Y, Y, Z, Y, Y, Z, Z, Y, Y, Z, Y, Y, Z, Z, Z, Z, Z, Z] rfl rfl HT_ ?_
           refine puA (i := 15) (N := some 105) #[Y, Y, Z, Y, Y, Z, Z, Y, Y, Z, Y, Y, Z, Z, Z, Y, Z, Z] rfl rfl HT_ ?_
           refine take_ (i := 2) (N := some 92) (v := ?_) (a' := ?_) #[Y, Y, Y, Y, Y, Z, Z, Y, Y, Z, Y, Y, Z, Z, Z, Y, Z, Z] rfl rfl (take_ofW HT_.out HW_.out (by kernel_rfl)) (fun _ _ _ h => h) (Or.inl ⟨by rfl, ?_⟩) hHeld ?_ ?_
           rotate_left
           ·
            rintro w' ⟨s0, s1, s2, s3⟩
            go_simp
            with_reducible rfl
           rotate_left
           ·
            simp only [pA]
            rfl
           refine take_ (i := 5) (N := some 95) (v := ?_) (a' := ?_) #[Y, Y, Y, Y, Y, Y, Z, Y, Y, Z, Y, Y, Z, Z, Z, Y, Z, Z] rfl rfl (take_ofW HT_.out HW_.out (by kernel_rfl)) (fun _ _ _ h => h) (Or.inl ⟨by rfl, ?_⟩) hHeld ?_ ?_
           rotate_left
           ·
            rintro w' ⟨s0, s1, s2, s3⟩
            go_simp
            with_reducible rfl
           rotate_left
           ·
            simp only [pA]
            rfl
           refine puA (i := 6) (N := some 96) #[Y, Y, Y, Y, Y, Y, Y, Y, Y, Z, Y, Y, Z, Z, Z, Y, Z, Z] rfl rfl HT_ ?_
           refine take_ (i := 9) (N := some 99) (v := ?_) (a' := ?_) #[Y, Y, Y, Y, Y, Y, Y, Y, Y, Y, Y, Y, Z, Z, Z, Y, Z, Z] rfl rfl (take_ofW HT_.out HW_.out (by kernel_rfl)) (fun _ _ _ h => h) (Or.inl ⟨by rfl, ?_⟩) hHeld ?_ ?_
           rotate_left
           ·
            rintro w' ⟨s0, s1, s2, s3⟩
            go_simp
            with_reducible rfl
           rotate_left
           ·
            simp only [pA]
            rfl
           refine take_ (i := 12) (N := some 102) (v := ?_) (a' := ?_) #[Y, Y, Y, Y, Y, Y, Y, Y, Y, Y, Y, Y, Y, Z, Z, Y, Z, Z] rfl rfl (take_ofW HT_.out HW_.out (by kernel_rfl)) (fun _ _ _ h => h) (Or.inl ⟨by rfl, ?_⟩) hHeld ?_ ?_
           rotate_left
           ·
            rintro w' ⟨s0, s1, s2, s3⟩
            go_simp
            with_reducible rfl
           rotate_left
           ·
            simp only [pA]
            rfl
           refine puA (i := 13) (N := some 103) #[Y, Y, Y, Y, Y, Y, Y, Y, Y, Y, Y, Y, Y, Y, Z, Y, Z, Z] rfl rfl HT_ ?_
           refine puA (i := 14) (N := some 104) #[Y, Y, Y, Y, Y, Y, Y, Y, Y, Y, Y, Y, Y, Y, Y, Y, Z, Z] rfl rfl HT_ ?_
           refine one_ (i := 16) (N := none) #[Y, Y, Y, Y, Y, Y, Y, Y, Y, Y, Y, Y, Y, Y, Y, Y, Y, Z] rfl rfl (one_of HT_.out (by kernel_rfl)) (by decide) (fun K hK => ?_)
           have hs46 : w44.cell? ⟨gb1032, 0, none⟩ = some (.int .i64 0) := cA BK1032 0
           have hfs46 := blk_frozen BK1032.out 0
           have hns46_0 := NB1031_1032.out
           have hms46_0 := NB1032_1031.out
           have hs47 : w44.cell? ⟨gb1032, 1, none⟩ = some (.int .i64 0) := cA BK1032 1
           have hfs47 := blk_frozen BK1032.out 1
           have hns47_0 := NB1031_1032.out
           have hms47_0 := NB1032_1031.out
           have hs48 : w44.cell? ⟨gb1032, 2, none⟩ = some (.int .i64 0) := cA BK1032 2
           have hfs48 := blk_frozen BK1032.out 2
           have hns48_0 := NB1031_1032.out
           have hms48_0 := NB1032_1031.out
           have hs49 : w44.cell? ⟨gb1032, 3, none⟩ = some (.int .i64 0) := cA BK1032 3
           have hfs49 := blk_frozen BK1032.out 3
           have hns49_0 := NB1031_1032.out
           have hms49_0 := NB1032_1031.out
           refine skip_ (w1 := ?_) (by rfl) rfl ?_ ?_
           rotate_left
           ·
            go_simp
            rfl
           refine hK.out _ _ ⟨((cell_far (p := ⟨gb1032, _, none⟩) (fB (Kd.own_blk (Kd.R_ne HO_4.out BK1032.out (by decide)))) _).trans (((cell_far (p := ⟨gb1032, _, none⟩) (fB (Kd.own_blk (Kd.R_ne HO_4.out BK1032.out (by decide)))) _).trans (((cell_far (p := ⟨gb1032, _, none⟩) (fB (Kd.own_blk (Kd.R_ne HO_4.out BK1032.out (by decide)))) _).trans (((cell_far (p := ⟨gb1032, _, none⟩) (fB (Kd.own_blk (Kd.R_ne HO_4.out BK1032.out (by decide)))) _).trans (hHeld.1)))))))), ((cell_far (p := ⟨gb1032, _, none⟩) (fB (Kd.own_blk (Kd.R_ne HO_4.out BK1032.out (by decide)))) _).trans (((cell_far (p := ⟨gb1032, _, none⟩) (fB (Kd.own_blk (Kd.R_ne HO_4.out BK1032.out (by decide)))) _).trans (((cell_far (p := ⟨gb1032, _, none⟩) (fB (Kd.own_blk (Kd.R_ne HO_4.out BK1032.out (by decide)))) _).trans (((cell_far (p := ⟨gb1032, _, none⟩) (fB (Kd.own_blk (Kd.R_ne HO_4.out BK1032.out (by decide)))) _).trans (hHeld.2.1)))))))), ((cell_far (p := ⟨gb1032, _, none⟩) (fB (Kd.own_blk (Kd.R_ne HO_4.out BK1032.out (by decide)))) _).trans (((cell_far (p := ⟨gb1032, _, none⟩) (fB (Kd.own_blk (Kd.R_ne HO_4.out BK1032.out (by decide)))) _).trans (((cell_far (p := ⟨gb1032, _, none⟩) (fB (Kd.own_blk (Kd.R_ne HO_4.out BK1032.out (by decide)))) _).trans (((cell_far (p := ⟨gb1032, _, none⟩) (fB (Kd.own_blk (Kd.R_ne HO_4.out BK1032.out (by decide)))) _).trans (hHeld.2.2.1)))))))), ((cell_far (p := ⟨gb1032, _, none⟩) (fB (Kd.own_blk (Kd.R_ne HO_4.out BK1032.out (by decide)))) _).trans (((cell_far (p := ⟨gb1032, _, none⟩) (fB (Kd.own_blk (Kd.R_ne HO_4.out BK1032.out (by decide)))) _).trans (((cell_far (p := ⟨gb1032, _, none⟩) (fB (Kd.own_blk (Kd.R_ne HO_4.out BK1032.out (by decide)))) _).trans (((cell_far (p := ⟨gb1032, _, none⟩) (fB (Kd.own_blk (Kd.R_ne HO_4.out BK1032.out (by decide)))) _).trans (hHeld.2.2.2))))))))⟩ (fun hHeld => ?_)
           clear hK K
           refine puA (i := 17) (N := some 3) #[Y, Y, Y, Y, Y, Y, Y, Y, Y, Y, Y, Y, Y, Y, Y, Y, Y, Y] rfl rfl HT_ ?_
           refine done_ (done_of HT_.out (by kernel_rfl)) ?_
           try go_wp2
           refine bodyPost_ret (results_ct rfl _ _ gb1032 26 #[.int .i64 (rd x4_2 0), .int .i64 (rd x4_2 1), .int .i64 (rd x4_2 2), .int .i64 (rd x4_2 3)] (0, 0) _ rfl (by refine dr ?_; refine blk_put (cs := #[.int .i64 (rd x4_2 0), .int .i64 (rd x4_2 1), .int .i64 (rd x4_2 2), .int .i64 0]) ?_ 3 _ rfl; refine dr ?_; refine blk_put (cs := #[.int .i64 (rd x4_2 0), .int .i64 (rd x4_2 1), .int .i64 0, .int .i64 0]) ?_ 2 _ rfl; refine dr ?_; refine blk_put (cs := #[.int .i64 (rd x4_2 0), .int .i64 0, .int .i64 0, .int .i64 0]) ?_ 1 _ rfl; refine dr ?_; refine blk_put (cs := #[.int .i64 0, .int .i64 0, .int .i64 0, .int .i64 0]) ?_ 0 _ rfl; exact bkA BK1032) Try.underlying26 rfl (by kernel_rfl)) rfl ?_
           exact ⟨by first | rfl | (simp [errW_none, errW_some] <;> rfl) | (simp only [← hji26]; first | rfl | (simp [errW_none, errW_some] <;> rfl)) | (simp [*, errW_none, errW_some] <;> rfl), blA⟩
          ·
           rw [if_neg c43] at H
           exact absurd H (by simp)
         ·
          rw [if_neg c42] at H
          exact absurd H (by simp)
        ·
         rw [if_neg c41] at H
         exact absurd H (by simp)
       ·
        rw [if_neg c40] at H
        exact absurd H (by simp)
end Go.Proofs.Ytccpccnnbacgjaa.PAll
