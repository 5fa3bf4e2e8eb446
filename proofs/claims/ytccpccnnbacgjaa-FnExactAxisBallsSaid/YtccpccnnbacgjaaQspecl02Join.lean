-- turned for this claim out of the kit's print: the same functions, packed anew
import Derived.Test.YtccpccnnbacgjaaQx
import Derived.Test.YtccpccnnbacgjaaQLtoBall
import Derived.Test.YtccpccnnbacgjaaQspecl02Valuation
namespace Go.Proofs.Ytccpccnnbacgjaa.PAll
open Go.RowKit Go.Proofs.YtccpccnnbacgjaaW.PrintWords Go.Proofs.YtccpccnnbacgjaaW.PrintLast Go.Proofs.YtccpccnnbacgjaaW.PrintMore
attribute [local go_sem] Go.Proofs.Ytccpccnnbacgjaa.Aux.setCell_drewN Go.Proofs.Ytccpccnnbacgjaa.Aux.isSome_setCell max2_int min2_int max_two min_two max_three min_three max_four min_four   -- for this text's walks alone
set_option linter.unusedVariables false
set_option linter.unusedSimpArgs false
/-! ### impl_lengthOf: function 77 -/
def impl_lengthOf.f (k : Nat) (a0 : Int) (a1_0 : Int) (a1_1 : Int) (a1_2 : Int) (a1_3 : Int) : Option (Int × Int) := (impl_determinant.f a1_0 a1_1 a1_2 a1_3).bind fun t642 => ((impl_valuation.f k a0 t642).bind fun t643 => ((impl_valuation.f k a0 (wrap64 (a1_0 + a1_3))).bind fun t644 => (if (wrap64 (2 * t644)) < t643 then (some (wrap64 (t643 - (wrap64 (2 * t644))), 2)) else (if (Int.tmod t643 2) = 0 then (some (0, 0)) else (some (0, 1))))))
theorem impl_lengthOf.mono : ∀ a0 a1 a2 a3 a4 k, LeO (impl_lengthOf.f k a0 a1 a2 a3 a4) (impl_lengthOf.f (k + 1) a0 a1 a2 a3 a4) := by
 intro a0 a1 a2 a3 a4 k
 unfold impl_lengthOf.f
 repeat' first
   | (with_reducible exact impl_valuation.mono _ _ _)
   | (with_reducible exact LeO.refl _)
   | (with_reducible exact LeO.none _)
   | (with_reducible refine LeO.ite ?_ ?_)
   | (with_reducible refine LeO.bind ?_ (fun _ => ?_))
def impl_lengthOf.T1 : Bool × List (List Nat × List Nat) := (true, [([], []), ([], []), ([1], [1]), ([0, 2, 2], [0, 2]), ([], []), ([], []), ([5], [5]), ([6], [6]), ([], []), ([8], [8]), ([9], [9]), ([7, 10], [7, 10]), ([4, 11, 3], [4, 11]), ([3, 12, 0, 1, 2, 3], [3]), ([12, 13, 0, 1, 2, 3, 4, 5, 6, 7, 8, 9, 10, 11, 12, 13], [12])])
def impl_lengthOf.B1 : List Nat := [0, 0, 2, 7, 0, 0, 32, 96, 0, 256, 768, 2016, 4095, 8191, 16383]
theorem impl_lengthOf.tab1 : rtab .any (opsOf Try.f77 1) = impl_lengthOf.T1 := by kernel_rfl
theorem impl_lengthOf.bits1 : waitsOk impl_lengthOf.T1.2 impl_lengthOf.B1 = true := by kernel_rfl
set_option maxHeartbeats 8000000 in
set_option maxRecDepth 100000 in
theorem impl_lengthOf.calls (k : Nat) (a0 : Int) (a1_0 : Int) (a1_1 : Int) (a1_2 : Int) (a1_3 : Int) (r1 : Int) (r2 : Int) (w : World) (h : impl_lengthOf.f k a0 a1_0 a1_1 a1_2 a1_3 = some (r1, r2)) :
  Calls Try.prog 77 #[.int .i64 a0, .agg #[.int .i64 a1_0, .int .i64 a1_1, .int .i64 a1_2, .int .i64 a1_3]] w fun e w' => e = .returned (.tuple #[.int .i64 r1, .int .i64 r2]) ∧ Below w.heap.size w w' := by
 have hu26 := Try.underlying26
 have HB := Aside0.mk (Below.refl w.heap.size w)
 have H := h
 unfold impl_lengthOf.f at H
 clear h
 replace H := bS H
 obtain ⟨t642, A3, H⟩ := H
 try dsimp only at H
 replace H := bS H
 obtain ⟨t643, A4, H⟩ := H
 try dsimp only at H
 replace H := bS H
 obtain ⟨t644, A5, H⟩ := H
 try dsimp only at H
 by_cases c6 : (wrap64 (2 * t644)) < t643
 ·
  rw [if_pos c6] at H
  have c6b0 := decide_eq_true c6
  clear c6
  simp only [Option.some.injEq, Prod.mk.injEq] at H
  obtain ⟨rfl, rfl⟩ := H
  go_enter Try.func77, Try.ntmps77
  try go_wp2_with (first | ((with_reducible refine gate_dst (N := 3) rfl ?_); refine box_event ?hg (N := 3) ?hd (cs := #[.int .i64 a1_0, .int .i64 a1_1, .int .i64 a1_2, .int .i64 a1_3]) (t := 26) ?hr ?_; (case hd => rfl); (case hg => rfl); (case hr => first | (go_simp; done) | (go_simp; rfl)); intro gb641 hg w7 hbox hb; have n0_ := lB hb; have n1_ := Aside0.mk (hbox); have n2_ := sA hg; have n3_ := sA hg; clear HB; have HB := n0_; have BK641 := n1_; have GW641 := n2_; have GE641 := n3_; clear n0_ n1_ n2_ n3_; clear hb hbox hg))
  have n0_ := Aside0.mk (blk_drew BK641.out)
  have n1_ := Aside0.mk (below_drew1 HB.out)
  clear BK641
  clear HB
  have BK641 := n0_
  have HB := n1_
  clear n0_ n1_
  refine start_ (n := 15) (S := fun w' => w'.cell? ⟨gb641, 0, none⟩ = some (.int .i64 a1_0) ∧ w'.cell? ⟨gb641, 1, none⟩ = some (.int .i64 a1_1) ∧ w'.cell? ⟨gb641, 2, none⟩ = some (.int .i64 a1_2) ∧ w'.cell? ⟨gb641, 3, none⟩ = some (.int .i64 a1_3)) (ds := []) #[Z, Z, Z, Z, Z, Z, Z, Z, Z, Z, Z, Z, Z, Z, Z] (by kernel_rfl) rfl rfl ⟨cA BK641 0, cA BK641 1, cA BK641 2, cA BK641 3⟩ (fun hHeld => ?_); refine with_tabW impl_lengthOf.tab1 impl_lengthOf.bits1 (fun HT_ HW_ => ?_)
  generalize w7.drew = w8 at BK641 HB hHeld ⊢
  refine pure_ (i := 0) (N := some 8) (v := ?_) (a' := ?_) #[Y, Z, Z, Z, Z, Z, Z, Z, Z, Z, Z, Z, Z, Z, Z] rfl rfl (any_of HT_.out (by kernel_rfl)) (fun _ _ _ h => h) (Or.inl ⟨by rfl, ?_⟩) ?_ ?_
  rotate_left
  ·
   intro w'
   go_simp
   with_reducible rfl
  rotate_left
  ·
   simp only [pA]
   rfl
  refine pure_ (i := 4) (N := some 12) (v := ?_) (a' := ?_) #[Y, Z, Z, Z, Y, Z, Z, Z, Z, Z, Z, Z, Z, Z, Z] rfl rfl (any_of HT_.out (by kernel_rfl)) (fun _ _ _ h => h) (Or.inl ⟨by rfl, ?_⟩) ?_ ?_
  rotate_left
  ·
   intro w'
   go_simp
   with_reducible rfl
  rotate_left
  ·
   simp only [pA]
   rfl
  refine pure_ (i := 5) (N := some 13) (v := ?_) (a' := ?_) #[Y, Z, Z, Z, Y, Y, Z, Z, Z, Z, Z, Z, Z, Z, Z] rfl rfl (any_of HT_.out (by kernel_rfl)) (fun _ _ _ h => h) (Or.inl ⟨by rfl, ?_⟩) ?_ ?_
  rotate_left
  ·
   intro w'
   go_simp
   with_reducible rfl
  rotate_left
  ·
   simp only [pA]
   rfl
  refine pure_ (i := 6) (N := some 14) (v := ?_) (a' := ?_) #[Y, Z, Z, Z, Y, Y, Y, Z, Z, Z, Z, Z, Z, Z, Z] rfl rfl (any_of HT_.out (by kernel_rfl)) (fun _ _ _ h => h) (Or.inl ⟨by rfl, ?_⟩) ?_ ?_
  rotate_left
  ·
   intro w'
   go_simp
   with_reducible rfl
  rotate_left
  ·
   simp only [pA]
   rfl
  refine pure_ (i := 8) (N := some 16) (v := ?_) (a' := ?_) #[Y, Z, Z, Z, Y, Y, Y, Z, Y, Z, Z, Z, Z, Z, Z] rfl rfl (any_of HT_.out (by kernel_rfl)) (fun _ _ _ h => h) (Or.inl ⟨by rfl, ?_⟩) ?_ ?_
  rotate_left
  ·
   intro w'
   go_simp
   with_reducible rfl
  rotate_left
  ·
   simp only [pA]
   rfl
  refine pure_ (i := 9) (N := some 17) (v := ?_) (a' := ?_) #[Y, Z, Z, Z, Y, Y, Y, Z, Y, Y, Z, Z, Z, Z, Z] rfl rfl (any_of HT_.out (by kernel_rfl)) (fun _ _ _ h => h) (Or.inl ⟨by rfl, ?_⟩) ?_ ?_
  rotate_left
  ·
   intro w'
   go_simp
   with_reducible rfl
  rotate_left
  ·
   simp only [pA]
   rfl
  refine take_ (i := 1) (N := some 9) (v := ?_) (a' := ?_) #[Y, Y, Z, Z, Y, Y, Y, Z, Y, Y, Z, Z, Z, Z, Z] rfl rfl (take_ofW HT_.out HW_.out (by kernel_rfl)) (fun _ _ _ h => h) (Or.inl ⟨by rfl, ?_⟩) hHeld ?_ ?_
  rotate_left
  ·
   rintro w' ⟨s0, s1, s2, s3⟩
   go_simp
   with_reducible rfl
  rotate_left
  ·
   simp only [pA]
   rfl
  refine take_ (i := 7) (N := some 15) (v := ?_) (a' := ?_) #[Y, Y, Z, Z, Y, Y, Y, Y, Y, Y, Z, Z, Z, Z, Z] rfl rfl (take_ofW HT_.out HW_.out (by kernel_rfl)) (fun _ _ _ h => h) (Or.inl ⟨by rfl, ?_⟩) hHeld ?_ ?_
  rotate_left
  ·
   rintro w' ⟨s0, s1, s2, s3⟩
   go_simp
   with_reducible rfl
  rotate_left
  ·
   simp only [pA]
   rfl
  refine take_ (i := 10) (N := some 18) (v := ?_) (a' := ?_) #[Y, Y, Z, Z, Y, Y, Y, Y, Y, Y, Y, Z, Z, Z, Z] rfl rfl (take_ofW HT_.out HW_.out (by kernel_rfl)) (fun _ _ _ h => h) (Or.inl ⟨by rfl, ?_⟩) hHeld ?_ ?_
  rotate_left
  ·
   rintro w' ⟨s0, s1, s2, s3⟩
   go_simp
   with_reducible rfl
  rotate_left
  ·
   simp only [pA]
   rfl
  refine pure_ (i := 11) (N := some 19) (v := ?_) (a' := ?_) #[Y, Y, Z, Z, Y, Y, Y, Y, Y, Y, Y, Y, Z, Z, Z] rfl rfl (any_of HT_.out (by kernel_rfl)) (fun _ _ _ h => h) (Or.inl ⟨by rfl, ?_⟩) ?_ ?_
  rotate_left
  ·
   intro w'
   go_simp
   with_reducible rfl
  rotate_left
  ·
   simp only [pA]
   rfl
  refine one_ (i := 2) (N := some 10) #[Y, Y, Y, Z, Y, Y, Y, Y, Y, Y, Y, Y, Z, Z, Z] rfl rfl (one_of HT_.out (by kernel_rfl)) (by decide) (fun K hK => ?_)
  refine goes_ Try.func124 (by kernel_rfl) rfl #[.agg #[.int .i64 a1_0, .int .i64 a1_1, .int .i64 a1_2, .int .i64 a1_3]] (by rfl) rfl rfl hA ?_
  with_reducible refine (impl_determinant.calls a1_0 a1_1 a1_2 a1_3 t642 _ A3.out).mono ?_
  rintro e w9 ⟨rfl, hb⟩
  refine ⟨_, rfl, ?_⟩
  replace BK641 := kB BK641 hb
  replace HB := lB hb
  (try clear hb)
  (try clear hb2)
  (try clear hk)
  (try clear hi)
  refine hK.out _ _ ⟨cA BK641 0, cA BK641 1, cA BK641 2, cA BK641 3⟩ (fun hHeld => ?_)
  clear hK K
  refine norm_ (a' := ?_) ?_ ?_
  rotate_left
  ·
   show Act.put _ (some 10) _ = _
   simp only [pA]
   rfl
  refine one_ (i := 3) (N := some 11) #[Y, Y, Y, Y, Y, Y, Y, Y, Y, Y, Y, Y, Z, Z, Z] rfl rfl (one_of HT_.out (by kernel_rfl)) (by decide) (fun K hK => ?_)
  refine goes_ Try.func123 (by kernel_rfl) rfl #[.int .i64 a0, .int .i64 t642] (by rfl) rfl rfl hA ?_
  with_reducible refine (impl_valuation.calls k a0 t642 t643 _ A4.out).mono ?_
  rintro e w' ⟨rfl, ⟨nd, rfl⟩⟩
  refine ⟨_, rfl, ?_⟩
  refine hK.out _ _ ⟨cA BK641 0, cA BK641 1, cA BK641 2, cA BK641 3⟩ (fun hHeld => ?_)
  clear hK K
  refine norm_ (a' := ?_) ?_ ?_
  rotate_left
  ·
   show Act.put _ (some 11) _ = _
   simp only [pA]
   rfl
  refine one_ (i := 12) (N := some 20) #[Y, Y, Y, Y, Y, Y, Y, Y, Y, Y, Y, Y, Y, Z, Z] rfl rfl (one_of HT_.out (by kernel_rfl)) (by decide) (fun K hK => ?_)
  refine goes_ Try.func123 (by kernel_rfl) rfl #[.int .i64 a0, .int .i64 (wrap64 (a1_0 + a1_3))] (by rfl) rfl rfl hA ?_
  with_reducible refine (impl_valuation.calls k a0 (wrap64 (a1_0 + a1_3)) t644 _ A5.out).mono ?_
  rintro e w' ⟨rfl, ⟨nd, rfl⟩⟩
  refine ⟨_, rfl, ?_⟩
  refine hK.out _ _ ⟨cA BK641 0, cA BK641 1, cA BK641 2, cA BK641 3⟩ (fun hHeld => ?_)
  clear hK K
  refine norm_ (a' := ?_) ?_ ?_
  rotate_left
  ·
   show Act.put _ (some 20) _ = _
   simp only [pA]
   rfl
  refine pure_ (i := 13) (N := some 6) (v := ?_) (a' := ?_) #[Y, Y, Y, Y, Y, Y, Y, Y, Y, Y, Y, Y, Y, Y, Z] rfl rfl (any_of HT_.out (by kernel_rfl)) (fun _ _ _ h => h) (Or.inl ⟨by rfl, ?_⟩) ?_ ?_
  rotate_left
  ·
   intro w'
   go_simp
   with_reducible rfl
  rotate_left
  ·
   simp only [pA]
   rfl
  refine pure_ (i := 14) (N := some 7) (v := ?_) (a' := ?_) #[Y, Y, Y, Y, Y, Y, Y, Y, Y, Y, Y, Y, Y, Y, Y] rfl rfl (any_of HT_.out (by kernel_rfl)) (fun _ _ _ h => h) (Or.inl ⟨by rfl, ?_⟩) ?_ ?_
  rotate_left
  ·
   intro w'
   go_simp
   with_reducible rfl
  rotate_left
  ·
   simp only [pA]
   rfl
  refine done_ (done_of HT_.out (by kernel_rfl)) ?_
  try go_wp2
  go_ret2
  exact finA blA
 ·
  rw [if_neg c6] at H
  have c6b0 := decide_eq_false c6
  clear c6
  by_cases c10 : (Int.tmod t643 2) = 0
  ·
   rw [if_pos c10] at H
   have c10b0 : ((Int.tmod t643 2) == 0) = true := beq_iff_eq.mpr c10
   have c10b1 : ((Int.tmod t643 2) != 0) = false := bne_eq_false_iff_eq.mpr c10
   clear c10
   simp only [Option.some.injEq, Prod.mk.injEq] at H
   obtain ⟨rfl, rfl⟩ := H
   go_enter Try.func77, Try.ntmps77
   try go_wp2_with (first | ((with_reducible refine gate_dst (N := 3) rfl ?_); refine box_event ?hg (N := 3) ?hd (cs := #[.int .i64 a1_0, .int .i64 a1_1, .int .i64 a1_2, .int .i64 a1_3]) (t := 26) ?hr ?_; (case hd => rfl); (case hg => rfl); (case hr => first | (go_simp; done) | (go_simp; rfl)); intro gb641 hg w11 hbox hb; have n0_ := lB hb; have n1_ := Aside0.mk (hbox); have n2_ := sA hg; have n3_ := sA hg; clear HB; have HB := n0_; have BK641 := n1_; have GW641 := n2_; have GE641 := n3_; clear n0_ n1_ n2_ n3_; clear hb hbox hg))
   have n0_ := Aside0.mk (blk_drew BK641.out)
   have n1_ := Aside0.mk (below_drew1 HB.out)
   clear BK641
   clear HB
   have BK641 := n0_
   have HB := n1_
   clear n0_ n1_
   refine start_ (n := 15) (S := fun w' => w'.cell? ⟨gb641, 0, none⟩ = some (.int .i64 a1_0) ∧ w'.cell? ⟨gb641, 1, none⟩ = some (.int .i64 a1_1) ∧ w'.cell? ⟨gb641, 2, none⟩ = some (.int .i64 a1_2) ∧ w'.cell? ⟨gb641, 3, none⟩ = some (.int .i64 a1_3)) (ds := []) #[Z, Z, Z, Z, Z, Z, Z, Z, Z, Z, Z, Z, Z, Z, Z] (by kernel_rfl) rfl rfl ⟨cA BK641 0, cA BK641 1, cA BK641 2, cA BK641 3⟩ (fun hHeld => ?_); refine with_tabW impl_lengthOf.tab1 impl_lengthOf.bits1 (fun HT_ HW_ => ?_)
   generalize w11.drew = w12 at BK641 HB hHeld ⊢
   refine pure_ (i := 0) (N := some 8) (v := ?_) (a' := ?_) #[Y, Z, Z, Z, Z, Z, Z, Z, Z, Z, Z, Z, Z, Z, Z] rfl rfl (any_of HT_.out (by kernel_rfl)) (fun _ _ _ h => h) (Or.inl ⟨by rfl, ?_⟩) ?_ ?_
   rotate_left
   ·
    intro w'
    go_simp
    with_reducible rfl
   rotate_left
   ·
    simp only [pA]
    rfl
   refine pure_ (i := 4) (N := some 12) (v := ?_) (a' := ?_) #[Y, Z, Z, Z, Y, Z, Z, Z, Z, Z, Z, Z, Z, Z, Z] rfl rfl (any_of HT_.out (by kernel_rfl)) (fun _ _ _ h => h) (Or.inl ⟨by rfl, ?_⟩) ?_ ?_
   rotate_left
   ·
    intro w'
    go_simp
    with_reducible rfl
   rotate_left
   ·
    simp only [pA]
    rfl
   refine pure_ (i := 5) (N := some 13) (v := ?_) (a' := ?_) #[Y, Z, Z, Z, Y, Y, Z, Z, Z, Z, Z, Z, Z, Z, Z] rfl rfl (any_of HT_.out (by kernel_rfl)) (fun _ _ _ h => h) (Or.inl ⟨by rfl, ?_⟩) ?_ ?_
   rotate_left
   ·
    intro w'
    go_simp
    with_reducible rfl
   rotate_left
   ·
    simp only [pA]
    rfl
   refine pure_ (i := 6) (N := some 14) (v := ?_) (a' := ?_) #[Y, Z, Z, Z, Y, Y, Y, Z, Z, Z, Z, Z, Z, Z, Z] rfl rfl (any_of HT_.out (by kernel_rfl)) (fun _ _ _ h => h) (Or.inl ⟨by rfl, ?_⟩) ?_ ?_
   rotate_left
   ·
    intro w'
    go_simp
    with_reducible rfl
   rotate_left
   ·
    simp only [pA]
    rfl
   refine pure_ (i := 8) (N := some 16) (v := ?_) (a' := ?_) #[Y, Z, Z, Z, Y, Y, Y, Z, Y, Z, Z, Z, Z, Z, Z] rfl rfl (any_of HT_.out (by kernel_rfl)) (fun _ _ _ h => h) (Or.inl ⟨by rfl, ?_⟩) ?_ ?_
   rotate_left
   ·
    intro w'
    go_simp
    with_reducible rfl
   rotate_left
   ·
    simp only [pA]
    rfl
   refine pure_ (i := 9) (N := some 17) (v := ?_) (a' := ?_) #[Y, Z, Z, Z, Y, Y, Y, Z, Y, Y, Z, Z, Z, Z, Z] rfl rfl (any_of HT_.out (by kernel_rfl)) (fun _ _ _ h => h) (Or.inl ⟨by rfl, ?_⟩) ?_ ?_
   rotate_left
   ·
    intro w'
    go_simp
    with_reducible rfl
   rotate_left
   ·
    simp only [pA]
    rfl
   refine take_ (i := 1) (N := some 9) (v := ?_) (a' := ?_) #[Y, Y, Z, Z, Y, Y, Y, Z, Y, Y, Z, Z, Z, Z, Z] rfl rfl (take_ofW HT_.out HW_.out (by kernel_rfl)) (fun _ _ _ h => h) (Or.inl ⟨by rfl, ?_⟩) hHeld ?_ ?_
   rotate_left
   ·
    rintro w' ⟨s0, s1, s2, s3⟩
    go_simp
    with_reducible rfl
   rotate_left
   ·
    simp only [pA]
    rfl
   refine take_ (i := 7) (N := some 15) (v := ?_) (a' := ?_) #[Y, Y, Z, Z, Y, Y, Y, Y, Y, Y, Z, Z, Z, Z, Z] rfl rfl (take_ofW HT_.out HW_.out (by kernel_rfl)) (fun _ _ _ h => h) (Or.inl ⟨by rfl, ?_⟩) hHeld ?_ ?_
   rotate_left
   ·
    rintro w' ⟨s0, s1, s2, s3⟩
    go_simp
    with_reducible rfl
   rotate_left
   ·
    simp only [pA]
    rfl
   refine take_ (i := 10) (N := some 18) (v := ?_) (a' := ?_) #[Y, Y, Z, Z, Y, Y, Y, Y, Y, Y, Y, Z, Z, Z, Z] rfl rfl (take_ofW HT_.out HW_.out (by kernel_rfl)) (fun _ _ _ h => h) (Or.inl ⟨by rfl, ?_⟩) hHeld ?_ ?_
   rotate_left
   ·
    rintro w' ⟨s0, s1, s2, s3⟩
    go_simp
    with_reducible rfl
   rotate_left
   ·
    simp only [pA]
    rfl
   refine pure_ (i := 11) (N := some 19) (v := ?_) (a' := ?_) #[Y, Y, Z, Z, Y, Y, Y, Y, Y, Y, Y, Y, Z, Z, Z] rfl rfl (any_of HT_.out (by kernel_rfl)) (fun _ _ _ h => h) (Or.inl ⟨by rfl, ?_⟩) ?_ ?_
   rotate_left
   ·
    intro w'
    go_simp
    with_reducible rfl
   rotate_left
   ·
    simp only [pA]
    rfl
   refine one_ (i := 2) (N := some 10) #[Y, Y, Y, Z, Y, Y, Y, Y, Y, Y, Y, Y, Z, Z, Z] rfl rfl (one_of HT_.out (by kernel_rfl)) (by decide) (fun K hK => ?_)
   refine goes_ Try.func124 (by kernel_rfl) rfl #[.agg #[.int .i64 a1_0, .int .i64 a1_1, .int .i64 a1_2, .int .i64 a1_3]] (by rfl) rfl rfl hA ?_
   with_reducible refine (impl_determinant.calls a1_0 a1_1 a1_2 a1_3 t642 _ A3.out).mono ?_
   rintro e w13 ⟨rfl, hb⟩
   refine ⟨_, rfl, ?_⟩
   replace BK641 := kB BK641 hb
   replace HB := lB hb
   (try clear hb)
   (try clear hb2)
   (try clear hk)
   (try clear hi)
   refine hK.out _ _ ⟨cA BK641 0, cA BK641 1, cA BK641 2, cA BK641 3⟩ (fun hHeld => ?_)
   clear hK K
   refine norm_ (a' := ?_) ?_ ?_
   rotate_left
   ·
    show Act.put _ (some 10) _ = _
    simp only [pA]
    rfl
   refine one_ (i := 3) (N := some 11) #[Y, Y, Y, Y, Y, Y, Y, Y, Y, Y, Y, Y, Z, Z, Z] rfl rfl (one_of HT_.out (by kernel_rfl)) (by decide) (fun K hK => ?_)
   refine goes_ Try.func123 (by kernel_rfl) rfl #[.int .i64 a0, .int .i64 t642] (by rfl) rfl rfl hA ?_
   with_reducible refine (impl_valuation.calls k a0 t642 t643 _ A4.out).mono ?_
   rintro e w' ⟨rfl, ⟨nd, rfl⟩⟩
   refine ⟨_, rfl, ?_⟩
   refine hK.out _ _ ⟨cA BK641 0, cA BK641 1, cA BK641 2, cA BK641 3⟩ (fun hHeld => ?_)
   clear hK K
   refine norm_ (a' := ?_) ?_ ?_
   rotate_left
   ·
    show Act.put _ (some 11) _ = _
    simp only [pA]
    rfl
   refine one_ (i := 12) (N := some 20) #[Y, Y, Y, Y, Y, Y, Y, Y, Y, Y, Y, Y, Y, Z, Z] rfl rfl (one_of HT_.out (by kernel_rfl)) (by decide) (fun K hK => ?_)
   refine goes_ Try.func123 (by kernel_rfl) rfl #[.int .i64 a0, .int .i64 (wrap64 (a1_0 + a1_3))] (by rfl) rfl rfl hA ?_
   with_reducible refine (impl_valuation.calls k a0 (wrap64 (a1_0 + a1_3)) t644 _ A5.out).mono ?_
   rintro e w' ⟨rfl, ⟨nd, rfl⟩⟩
   refine ⟨_, rfl, ?_⟩
   refine hK.out _ _ ⟨cA BK641 0, cA BK641 1, cA BK641 2, cA BK641 3⟩ (fun hHeld => ?_)
   clear hK K
   refine norm_ (a' := ?_) ?_ ?_
   rotate_left
   ·
    show Act.put _ (some 20) _ = _
    simp only [pA]
    rfl
   refine pure_ (i := 13) (N := some 6) (v := ?_) (a' := ?_) #[Y, Y, Y, Y, Y, Y, Y, Y, Y, Y, Y, Y, Y, Y, Z] rfl rfl (any_of HT_.out (by kernel_rfl)) (fun _ _ _ h => h) (Or.inl ⟨by rfl, ?_⟩) ?_ ?_
   rotate_left
   ·
    intro w'
    go_simp
    with_reducible rfl
   rotate_left
   ·
    simp only [pA]
    rfl
   refine pure_ (i := 14) (N := some 7) (v := ?_) (a' := ?_) #[Y, Y, Y, Y, Y, Y, Y, Y, Y, Y, Y, Y, Y, Y, Y] rfl rfl (any_of HT_.out (by kernel_rfl)) (fun _ _ _ h => h) (Or.inl ⟨by rfl, ?_⟩) ?_ ?_
   rotate_left
   ·
    intro w'
    go_simp
    with_reducible rfl
   rotate_left
   ·
    simp only [pA]
    rfl
   refine done_ (done_of HT_.out (by kernel_rfl)) ?_
   try go_wp2
   go_ret2
   exact finA blA
  ·
   rw [if_neg c10] at H
   have c10b0 : ((Int.tmod t643 2) == 0) = false := beq_eq_false_iff_ne.mpr c10
   have c10b1 : ((Int.tmod t643 2) != 0) = true := bne_iff_ne.mpr c10
   simp only [Option.some.injEq, Prod.mk.injEq] at H
   obtain ⟨rfl, rfl⟩ := H
   go_enter Try.func77, Try.ntmps77
   try go_wp2_with (first | ((with_reducible refine gate_dst (N := 3) rfl ?_); refine box_event ?hg (N := 3) ?hd (cs := #[.int .i64 a1_0, .int .i64 a1_1, .int .i64 a1_2, .int .i64 a1_3]) (t := 26) ?hr ?_; (case hd => rfl); (case hg => rfl); (case hr => first | (go_simp; done) | (go_simp; rfl)); intro gb641 hg w14 hbox hb; have n0_ := lB hb; have n1_ := Aside0.mk (hbox); have n2_ := sA hg; have n3_ := sA hg; clear HB; have HB := n0_; have BK641 := n1_; have GW641 := n2_; have GE641 := n3_; clear n0_ n1_ n2_ n3_; clear hb hbox hg))
   have n0_ := Aside0.mk (blk_drew BK641.out)
   have n1_ := Aside0.mk (below_drew1 HB.out)
   clear BK641
   clear HB
   have BK641 := n0_
   have HB := n1_
   clear n0_ n1_
   refine start_ (n := 15) (S := fun w' => w'.cell? ⟨gb641, 0, none⟩ = some (.int .i64 a1_0) ∧ w'.cell? ⟨gb641, 1, none⟩ = some (.int .i64 a1_1) ∧ w'.cell? ⟨gb641, 2, none⟩ = some (.int .i64 a1_2) ∧ w'.cell? ⟨gb641, 3, none⟩ = some (.int .i64 a1_3)) (ds := []) #[Z, Z, Z, Z, Z, Z, Z, Z, Z, Z, Z, Z, Z, Z, Z] (by kernel_rfl) rfl rfl ⟨cA BK641 0, cA BK641 1, cA BK641 2, cA BK641 3⟩ (fun hHeld => ?_); refine with_tabW impl_lengthOf.tab1 impl_lengthOf.bits1 (fun HT_ HW_ => ?_)
   generalize w14.drew = w15 at BK641 HB hHeld ⊢
   refine pure_ (i := 0) (N := some 8) (v := ?_) (a' := ?_) #[Y, Z, Z, Z, Z, Z, Z, Z, Z, Z, Z, Z, Z, Z, Z] rfl rfl (any_of HT_.out (by kernel_rfl)) (fun _ _ _ h => h) (Or.inl ⟨by rfl, ?_⟩) ?_ ?_
   rotate_left
   ·
    intro w'
    go_simp
    with_reducible rfl
   rotate_left
   ·
    simp only [pA]
    rfl
   refine pure_ (i := 4) (N := some 12) (v := ?_) (a' := ?_) #[Y, Z, Z, Z, Y, Z, Z, Z, Z, Z, Z, Z, Z, Z, Z] rfl rfl (any_of HT_.out (by kernel_rfl)) (fun _ _ _ h => h) (Or.inl ⟨by rfl, ?_⟩) ?_ ?_
   rotate_left
   ·
    intro w'
    go_simp
    with_reducible rfl
   rotate_left
   ·
    simp only [pA]
    rfl
   refine pure_ (i := 5) (N := some 13) (v := ?_) (a' := ?_) #[Y, Z, Z, Z, Y, Y, Z, Z, Z, Z, Z, Z, Z, Z, Z] rfl rfl (any_of HT_.out (by kernel_rfl)) (fun _ _ _ h => h) (Or.inl ⟨by rfl, ?_⟩) ?_ ?_
   rotate_left
   ·
    intro w'
    go_simp
    with_reducible rfl
   rotate_left
   ·
    simp only [pA]
    rfl
   refine pure_ (i := 6) (N := some 14) (v := ?_) (a' := ?_) #[Y, Z, Z, Z, Y, Y, Y, Z, Z, Z, Z, Z, Z, Z, Z] rfl rfl (any_of HT_.out (by kernel_rfl)) (fun _ _ _ h => h) (Or.inl ⟨by rfl, ?_⟩) ?_ ?_
   rotate_left
   ·
    intro w'
    go_simp
    with_reducible rfl
   rotate_left
   ·
    simp only [pA]
    rfl
   refine pure_ (i := 8) (N := some 16) (v := ?_) (a' := ?_) #[Y, Z, Z, Z, Y, Y, Y, Z, Y, Z, Z, Z, Z, Z, Z] rfl rfl (any_of HT_.out (by kernel_rfl)) (fun _ _ _ h => h) (Or.inl ⟨by rfl, ?_⟩) ?_ ?_
   rotate_left
   ·
    intro w'
    go_simp
    with_reducible rfl
   rotate_left
   ·
    simp only [pA]
    rfl
   refine pure_ (i := 9) (N := some 17) (v := ?_) (a' := ?_) #[Y, Z, Z, Z, Y, Y, Y, Z, Y, Y, Z, Z, Z, Z, Z] rfl rfl (any_of HT_.out (by kernel_rfl)) (fun _ _ _ h => h) (Or.inl ⟨by rfl, ?_⟩) ?_ ?_
   rotate_left
   ·
    intro w'
    go_simp
    with_reducible rfl
   rotate_left
   ·
    simp only [pA]
    rfl
   refine take_ (i := 1) (N := some 9) (v := ?_) (a' := ?_) #[Y, Y, Z, Z, Y, Y, Y, Z, Y, Y, Z, Z, Z, Z, Z] rfl rfl (take_ofW HT_.out HW_.out (by kernel_rfl)) (fun _ _ _ h => h) (Or.inl ⟨by rfl, ?_⟩) hHeld ?_ ?_
   rotate_left
   ·
    rintro w' ⟨s0, s1, s2, s3⟩
    go_simp
    with_reducible rfl
   rotate_left
   ·
    simp only [pA]
    rfl
   refine take_ (i := 7) (N := some 15) (v := ?_) (a' := ?_) #[Y, Y, Z, Z, Y, Y, Y, Y, Y, Y, Z, Z, Z, Z, Z] rfl rfl (take_ofW HT_.out HW_.out (by kernel_rfl)) (fun _ _ _ h => h) (Or.inl ⟨by rfl, ?_⟩) hHeld ?_ ?_
   rotate_left
   ·
    rintro w' ⟨s0, s1, s2, s3⟩
    go_simp
    with_reducible rfl
   rotate_left
   ·
    simp only [pA]
    rfl
   refine take_ (i := 10) (N := some 18) (v := ?_) (a' := ?_) #[Y, Y, Z, Z, Y, Y, Y, Y, Y, Y, Y, Z, Z, Z, Z] rfl rfl (take_ofW HT_.out HW_.out (by kernel_rfl)) (fun _ _ _ h => h) (Or.inl ⟨by rfl, ?_⟩) hHeld ?_ ?_
   rotate_left
   ·
    rintro w' ⟨s0, s1, s2, s3⟩
    go_simp
    with_reducible rfl
   rotate_left
   ·
    simp only [pA]
    rfl
   refine pure_ (i := 11) (N := some 19) (v := ?_) (a' := ?_) #[Y, Y, Z, Z, Y, Y, Y, Y, Y, Y, Y, Y, Z, Z, Z] rfl rfl (any_of HT_.out (by kernel_rfl)) (fun _ _ _ h => h) (Or.inl ⟨by rfl, ?_⟩) ?_ ?_
   rotate_left
   ·
    intro w'
    go_simp
    with_reducible rfl
   rotate_left
   ·
    simp only [pA]
    rfl
   refine one_ (i := 2) (N := some 10) #[Y, Y, Y, Z, Y, Y, Y, Y, Y, Y, Y, Y, Z, Z, Z] rfl rfl (one_of HT_.out (by kernel_rfl)) (by decide) (fun K hK => ?_)
   refine goes_ Try.func124 (by kernel_rfl) rfl #[.agg #[.int .i64 a1_0, .int .i64 a1_1, .int .i64 a1_2, .int .i64 a1_3]] (by rfl) rfl rfl hA ?_
   with_reducible refine (impl_determinant.calls a1_0 a1_1 a1_2 a1_3 t642 _ A3.out).mono ?_
   rintro e w16 ⟨rfl, hb⟩
   refine ⟨_, rfl, ?_⟩
   replace BK641 := kB BK641 hb
   replace HB := lB hb
   (try clear hb)
   (try clear hb2)
   (try clear hk)
   (try clear hi)
   refine hK.out _ _ ⟨cA BK641 0, cA BK641 1, cA BK641 2, cA BK641 3⟩ (fun hHeld => ?_)
   clear hK K
   refine norm_ (a' := ?_) ?_ ?_
   rotate_left
   ·
    show Act.put _ (some 10) _ = _
    simp only [pA]
    rfl
   refine one_ (i := 3) (N := some 11) #[Y, Y, Y, Y, Y, Y, Y, Y, Y, Y, Y, Y, Z, Z, Z] rfl rfl (one_of HT_.out (by kernel_rfl)) (by decide) (fun K hK => ?_)
   refine goes_ Try.func123 (by kernel_rfl) rfl #[.int .i64 a0, .int .i64 t642] (by rfl) rfl rfl hA ?_
   with_reducible refine (impl_valuation.calls k a0 t642 t643 _ A4.out).mono ?_
   rintro e w' ⟨rfl, ⟨nd, rfl⟩⟩
   refine ⟨_, rfl, ?_⟩
   refine hK.out _ _ ⟨cA BK641 0, cA BK641 1, cA BK641 2, cA BK641 3⟩ (fun hHeld => ?_)
   clear hK K
   refine norm_ (a' := ?_) ?_ ?_
   rotate_left
   ·
    show Act.put _ (some 11) _ = _
    simp only [pA]
    rfl
   refine one_ (i := 12) (N := some 20) #[Y, Y, Y, Y, Y, Y, Y, Y, Y, Y, Y, Y, Y, Z, Z] rfl rfl (one_of HT_.out (by kernel_rfl)) (by decide) (fun K hK => ?_)
   refine goes_ Try.func123 (by kernel_rfl) rfl #[.int .i64 a0, .int .i64 (wrap64 (a1_0 + a1_3))] (by rfl) rfl rfl hA ?_
   with_reducible refine (impl_valuation.calls k a0 (wrap64 (a1_0 + a1_3)) t644 _ A5.out).mono ?_
   rintro e w' ⟨rfl, ⟨nd, rfl⟩⟩
   refine ⟨_, rfl, ?_⟩
   refine hK.out _ _ ⟨cA BK641 0, cA BK641 1, cA BK641 2, cA BK641 3⟩ (fun hHeld => ?_)
   clear hK K
   refine norm_ (a' := ?_) ?_ ?_
   rotate_left
   ·
    show Act.put _ (some 20) _ = _
    simp only [pA]
    rfl
   refine pure_ (i := 13) (N := some 6) (v := ?_) (a' := ?_) #[Y, Y, Y, Y, Y, Y, Y, Y, Y, Y, Y, Y, Y, Y, Z] rfl rfl (any_of HT_.out (by kernel_rfl)) (fun _ _ _ h => h) (Or.inl ⟨by rfl, ?_⟩) ?_ ?_
   rotate_left
   ·
    intro w'
    go_simp
    with_reducible rfl
   rotate_left
   ·
    simp only [pA]
    rfl
   refine pure_ (i := 14) (N := some 7) (v := ?_) (a' := ?_) #[Y, Y, Y, Y, Y, Y, Y, Y, Y, Y, Y, Y, Y, Y, Y] rfl rfl (any_of HT_.out (by kernel_rfl)) (fun _ _ _ h => h) (Or.inl ⟨by rfl, ?_⟩) ?_ ?_
   rotate_left
   ·
    intro w'
    go_simp
    with_reducible rfl
   rotate_left
   ·
    simp only [pA]
    rfl
   refine done_ (done_of HT_.out (by kernel_rfl)) ?_
   try go_wp2
   go_ret2
   exact finA blA
/-! ### spec_l01Code: function 100 -/
def spec_l01Code.l0 : Nat → Int → List (S39) → Int → Option (Int)
 | 0, _, _, _ => none
 | k + 1, x0, x1, x5 => if x5 < (x1.length : Int) then (if 0 ≤ x5 then ((spec_l01Is.f k x0 ((rd_T39 x1 x5).f0) ((rd_T39 x1 x5).f1) ((rd_T39 x1 x5).f2)).bind fun t110 => (if t110 = true then (spec_l01Code.l0 k x0 x1 (wrap64 (x5 + 1))) else (some 1))) else (none)) else (some 0)
def spec_l01Code.f (k : Nat) (a0 : Int) (l1 : List (S39)) : Option (Int) := (spec_l01Prime.f a0).bind fun t108 => (if t108 = true then (spec_l01Code.l0 k a0 l1 0) else (some 1))
theorem spec_l01Code.mono_l : ∀ k, (∀ y0 y1 y2, LeO (spec_l01Code.l0 k y0 y1 y2) (spec_l01Code.l0 (k + 1) y0 y1 y2))
 | 0 => fun _ _ _ r h => by simp [spec_l01Code.l0] at h
 | k + 1 => by
  have ih0 := spec_l01Code.mono_l k
  ·
   intro y0 y1 y2
   unfold spec_l01Code.l0
   repeat' first
   | (with_reducible exact ih0 _ _ _)
   | (with_reducible exact spec_l01Is.mono _ _ _ _ _)
   | (with_reducible exact LeO.refl _)
   | (with_reducible exact LeO.none _)
   | (with_reducible refine LeO.ite ?_ ?_)
   | (with_reducible refine LeO.bind ?_ (fun _ => ?_))
theorem spec_l01Code.mono : ∀ a0 a1 k, LeO (spec_l01Code.f k a0 a1) (spec_l01Code.f (k + 1) a0 a1) := by
 intro a0 a1 k
 have ih0 := spec_l01Code.mono_l k
 unfold spec_l01Code.f
 repeat' first
   | (with_reducible exact ih0 _ _ _)
   | (with_reducible exact spec_l01Is.mono _ _ _ _ _)
   | (with_reducible exact LeO.refl _)
   | (with_reducible exact LeO.none _)
   | (with_reducible refine LeO.ite ?_ ?_)
   | (with_reducible refine LeO.bind ?_ (fun _ => ?_))
set_option maxHeartbeats 8000000 in
set_option maxRecDepth 100000 in
theorem spec_l01Code.calls (k : Nat) (a0 : Int) (A1 : Option Addr) (c1 : Nat) (l1 : List (S39)) (r : Int) (w : World) (hr1 : Kd.C k39 w A1 l1.length l1) (hc1 : l1.length ≤ c1) (h : spec_l01Code.f k a0 l1 = some r) :
  Calls Try.prog 100 #[.int .i64 a0, .slice A1 l1.length c1] w fun e w' => e = .returned (.int .i64 r) ∧ Below w.heap.size w w' := by
 have hu39 := Try.underlying39
 have HR1 := Aside0.mk hr1
 have HC1 := Aside0.mk hc1
 clear hr1 hc1
 have HB := Aside0.mk (Below.refl w.heap.size w)
 have H := h
 unfold spec_l01Code.f at H
 clear h
 replace H := bS H
 obtain ⟨t108, A3, H⟩ := H
 try dsimp only at H
 by_cases c4 : t108 = true
 ·
  subst c4
  rw [if_pos rfl] at H
  try dsimp only at H
  have H' := Aside0.mk H
  clear H
  go_enter Try.func100, Try.ntmps100
  go_wp2_with (first | ((with_reducible refine gate_callee (f := 136) rfl ?_); refine goesL_ (some 7) rfl rfl Try.func136 (by kernel_rfl) rfl #[.int .i64 a0] rfl hA ?_; (with_reducible refine (spec_l01Prime.calls a0 true _ A3.out).mono ?_); rintro e w' ⟨rfl, ⟨nd, rfl⟩⟩; refine ⟨_, rfl, ?_⟩))
  go_loopg [5] k (fun kq v5 w' => ∃ (x5_1 : Int), v5 = .int .i64 x5_1 ∧ Aside0 (spec_l01Code.l0 kq a0 l1 x5_1 = some r) ∧ Aside0 (kq ≤ k) ∧ Aside0 (Below w.heap.size w w'))
  case atStart => exact ⟨(0), hB, H', ⟨Nat.le_refl _⟩, ⟨blA⟩⟩
  case round =>
   clear H'
   try clear c1
   try clear c4
   obtain ⟨x5_1, rfl, HA, HK1, HB⟩ := hrel
   cases gk with
   | zero => exact absurd HA.out (by simp [spec_l01Code.l0])
   | succ k1 =>
    have H := HA.out
    clear HA
    simp only [spec_l01Code.l0] at H
    by_cases c5 : x5_1 < (l1.length : Int)
    ·
     rw [if_pos c5] at H
     have c5b0 := decide_eq_true c5
     clear c5
     by_cases c6 : 0 ≤ x5_1
     ·
      rw [if_pos c6] at H
      have c6b0 := decide_eq_true c6
      clear c6
      replace H := bS H
      obtain ⟨t110, A7, H⟩ := H
      try dsimp only at H
      by_cases c8 : t110 = true
      ·
       subst c8
       rw [if_pos rfl] at H
       try dsimp only at H
       have H' := Aside0.mk H
       clear H
       have p109 : 0 ≤ (x5_1 : Int) := dA
       have q109 : x5_1 < (l1.length : Int) := dA
       obtain ⟨ad109, e109, hx109_0, hx109_1, hx109_2⟩ := at_T39 HR1.out x5_1 p109 q109
       cases e109
       replace hx109_0 := (HB.out.cell (World.block_lt_of_cell? w _ hx109_0)).trans hx109_0
       replace hx109_1 := (HB.out.cell (World.block_lt_of_cell? w _ hx109_1)).trans hx109_1
       replace hx109_2 := (HB.out.cell (World.block_lt_of_cell? w _ hx109_2)).trans hx109_2
       replace p109 := eq_true p109
       replace q109 := eq_true q109
       go_wp2_with (first | ((with_reducible refine gate_callee (f := 137) rfl ?_); refine goesL_ (some 20) rfl rfl Try.func137 (by kernel_rfl) rfl #[.int .i64 a0, .agg #[.int .i64 ((rd_T39 l1 x5_1).f0), .int .i64 ((rd_T39 l1 x5_1).f1), .int .i64 ((rd_T39 l1 x5_1).f2)]] rfl hA ?_; (with_reducible refine (spec_l01Is.calls k1 a0 ((rd_T39 l1 x5_1).f0) ((rd_T39 l1 x5_1).f1) ((rd_T39 l1 x5_1).f2) true _ A7.out).mono ?_); rintro e w9 ⟨rfl, hb⟩; refine ⟨_, rfl, ?_⟩; replace HB := lB hb; (try clear hb); (try clear hb2); (try clear hk); (try clear hi)))
       go_roundg k1
       case measure => have := HK1.out; omega
       case rel => exact ⟨(wrap64 (x5_1 + 1)), hB, H', ⟨by have := HK1.out; omega⟩, ⟨blA⟩⟩
      ·
       replace c8 := Bool.eq_false_iff.mpr c8
       subst c8
       rw [if_neg (show ¬ (false = true) by decide)] at H
       try dsimp only at H
       obtain rfl := Option.some.inj H
       have p109 : 0 ≤ (x5_1 : Int) := dA
       have q109 : x5_1 < (l1.length : Int) := dA
       obtain ⟨ad109, e109, hx109_0, hx109_1, hx109_2⟩ := at_T39 HR1.out x5_1 p109 q109
       cases e109
       replace hx109_0 := (HB.out.cell (World.block_lt_of_cell? w _ hx109_0)).trans hx109_0
       replace hx109_1 := (HB.out.cell (World.block_lt_of_cell? w _ hx109_1)).trans hx109_1
       replace hx109_2 := (HB.out.cell (World.block_lt_of_cell? w _ hx109_2)).trans hx109_2
       replace p109 := eq_true p109
       replace q109 := eq_true q109
       go_wp2_with (first | ((with_reducible refine gate_callee (f := 137) rfl ?_); refine goesL_ (some 20) rfl rfl Try.func137 (by kernel_rfl) rfl #[.int .i64 a0, .agg #[.int .i64 ((rd_T39 l1 x5_1).f0), .int .i64 ((rd_T39 l1 x5_1).f1), .int .i64 ((rd_T39 l1 x5_1).f2)]] rfl hA ?_; (with_reducible refine (spec_l01Is.calls k1 a0 ((rd_T39 l1 x5_1).f0) ((rd_T39 l1 x5_1).f1) ((rd_T39 l1 x5_1).f2) false _ A7.out).mono ?_); rintro e w10 ⟨rfl, hb⟩; refine ⟨_, rfl, ?_⟩; replace HB := lB hb; (try clear hb); (try clear hb2); (try clear hk); (try clear hi)))
       go_ret
       exact finA blA
     ·
      rw [if_neg c6] at H
      exact absurd H (by simp)
    ·
     rw [if_neg c5] at H
     have c5b0 := decide_eq_false c5
     clear c5
     obtain rfl := Option.some.inj H
     go_wp2
     go_ret
     exact finA blA
 ·
  replace c4 := Bool.eq_false_iff.mpr c4
  subst c4
  rw [if_neg (show ¬ (false = true) by decide)] at H
  try dsimp only at H
  obtain rfl := Option.some.inj H
  go_enter Try.func100, Try.ntmps100
  go_wp2_with (first | ((with_reducible refine gate_callee (f := 136) rfl ?_); refine goesL_ (some 7) rfl rfl Try.func136 (by kernel_rfl) rfl #[.int .i64 a0] rfl hA ?_; (with_reducible refine (spec_l01Prime.calls a0 false _ A3.out).mono ?_); rintro e w' ⟨rfl, ⟨nd, rfl⟩⟩; refine ⟨_, rfl, ?_⟩))
  go_ret
  exact finA blA
/-! ### spec_l02Join: function 139 -/
def spec_l02Join.f (k : Nat) (a0 : Int) (a1_0 : Int) (a1_1 : Int) (a1_2 : Int) (a2_0 : Int) (a2_1 : Int) (a2_2 : Int) : Option (Int) := (spec_l02Valuation.f k a0 a1_0 a1_1 a1_2 a2_0 a2_1 a2_2).bind fun bt124 => (if bt124.2 = true then (some (mn (mn a1_0 a2_0) bt124.1)) else (some (mn a1_0 a2_0)))
theorem spec_l02Join.mono : ∀ a0 a1 a2 a3 a4 a5 a6 k, LeO (spec_l02Join.f k a0 a1 a2 a3 a4 a5 a6) (spec_l02Join.f (k + 1) a0 a1 a2 a3 a4 a5 a6) := by
 intro a0 a1 a2 a3 a4 a5 a6 k
 unfold spec_l02Join.f
 repeat' first
   | (with_reducible exact spec_l02Valuation.mono _ _ _ _ _ _ _ _)
   | (with_reducible exact LeO.refl _)
   | (with_reducible exact LeO.none _)
   | (with_reducible refine LeO.ite ?_ ?_)
   | (with_reducible refine LeO.bind ?_ (fun _ => ?_))
set_option maxHeartbeats 8000000 in
set_option maxRecDepth 100000 in
theorem spec_l02Join.calls (k : Nat) (a0 : Int) (a1_0 : Int) (a1_1 : Int) (a1_2 : Int) (a2_0 : Int) (a2_1 : Int) (a2_2 : Int) (r : Int) (w : World) (h : spec_l02Join.f k a0 a1_0 a1_1 a1_2 a2_0 a2_1 a2_2 = some r) :
  Calls Try.prog 139 #[.int .i64 a0, .agg #[.int .i64 a1_0, .int .i64 a1_1, .int .i64 a1_2], .agg #[.int .i64 a2_0, .int .i64 a2_1, .int .i64 a2_2]] w fun e w' => e = .returned (.int .i64 r) ∧ Below w.heap.size w w' := by
 have hu39 := Try.underlying39
 have HB := Aside0.mk (Below.refl w.heap.size w)
 have H := h
 unfold spec_l02Join.f at H
 clear h
 obtain ⟨ji4, hji4⟩ : ∃ j_ : Int, (mn a1_0 a2_0) = j_ := ⟨_, rfl⟩
 replace H : ((spec_l02Valuation.f k a0 a1_0 a1_1 a1_2 a2_0 a2_1 a2_2).bind fun bt124 => (if bt124.2 = true then (some (mn (ji4) bt124.1)) else (some ji4))) = some r := by first | (rw [hji4] at H; exact H) | (simp only [hji4] at H ⊢; exact H)
 have hji4_ : (if a2_0 < a1_0 then a2_0 else a1_0) = ji4 := hji4
 replace H := bS H
 obtain ⟨⟨t124, t125⟩, A5, H⟩ := H
 try dsimp only at H
 by_cases c6 : t125 = true
 ·
  subst c6
  rw [if_pos rfl] at H
  try dsimp only at H
  obtain ⟨ji7, hji7⟩ : ∃ j_ : Int, (mn (ji4) t124) = j_ := ⟨_, rfl⟩
  replace H : (some ji7) = some r := by first | (rw [hji7] at H; exact H) | (simp only [hji7] at H ⊢; exact H)
  (try rw [hji7] at A5)
  have hji7_ : (if t124 < (ji4) then t124 else (ji4)) = ji7 := hji7
  obtain rfl := Option.some.inj H
  go_enter Try.func139, Try.ntmps139
  go_wp2_with (first | ((with_reducible refine gate_dst (N := 4) rfl ?_); refine box_event ?hg (N := 4) ?hd (cs := #[.int .i64 a1_0, .int .i64 a1_1, .int .i64 a1_2]) (t := 39) ?hr ?_; (case hd => rfl); (case hg => rfl); (case hr => first | (go_simp; done) | (go_simp; rfl)); intro gb122 hg w8 hbox hb; have BK122 := Aside0.mk (hbox); have GW122 := sA hg; have GE122 := sA hg; replace HB := lB hb; clear hb hbox hg) | ((with_reducible refine gate_dst (N := 5) rfl ?_); refine box_event ?hg (N := 5) ?hd (cs := #[.int .i64 a2_0, .int .i64 a2_1, .int .i64 a2_2]) (t := 39) ?hr ?_; (case hd => rfl); (case hg => rfl); (case hr => first | (go_simp; done) | (go_simp; rfl)); intro gb123 hg w9 hbox hb; have BK123 := Aside0.mk (hbox); have GW123 := sA hg; have GE123 := sA hg; have NB122_123 := nA hg BK122; have NB123_122 := nB hg BK122; replace BK122 := kB BK122 hb; replace HB := lB hb; clear hb hbox hg; have hnb10 := NB122_123.out; have hnc10 := NB123_122.out; have hcz11_0 : w9.cell? ⟨gb122, 0, none⟩ = some (.int .i64 a1_0) := cA BK122 0; have hcz11_1 : w9.cell? ⟨gb122, 1, none⟩ = some (.int .i64 a1_1) := cA BK122 1; have hcz11_2 : w9.cell? ⟨gb122, 2, none⟩ = some (.int .i64 a1_2) := cA BK122 2; have hfz11_0 := blk_frozen BK122.out 0; have hfz11_1 := blk_frozen BK122.out 1; have hfz11_2 := blk_frozen BK122.out 2; have hcz12_0 : w9.cell? ⟨gb123, 0, none⟩ = some (.int .i64 a2_0) := cA BK123 0; have hcz12_1 : w9.cell? ⟨gb123, 1, none⟩ = some (.int .i64 a2_1) := cA BK123 1; have hcz12_2 : w9.cell? ⟨gb123, 2, none⟩ = some (.int .i64 a2_2) := cA BK123 2; have hfz12_0 := blk_frozen BK123.out 0; have hfz12_1 := blk_frozen BK123.out 1; have hfz12_2 := blk_frozen BK123.out 2) | ((with_reducible refine gate_callee (f := 156) rfl ?_); refine goesL_ (some 19) rfl rfl Try.func156 (by kernel_rfl) rfl #[.int .i64 a0, .agg #[.int .i64 a1_0, .int .i64 a1_1, .int .i64 a1_2], .agg #[.int .i64 a2_0, .int .i64 a2_1, .int .i64 a2_2]] rfl hA ?_; (with_reducible refine (spec_l02Valuation.calls k a0 a1_0 a1_1 a1_2 a2_0 a2_1 a2_2 t124 true _ A5.out).mono ?_); rintro e w13 ⟨rfl, hb⟩; refine ⟨_, rfl, ?_⟩; replace BK122 := kB BK122 hb; replace BK123 := kB BK123 hb; replace HB := lB hb; (try clear hb); (try clear hb2); (try clear hk); (try clear hi)))
  go_ret
  exact ⟨by first | rfl | (simp [errW_none, errW_some] <;> rfl) | (simp only [← hji4, ← hji7]; first | rfl | (simp [errW_none, errW_some] <;> rfl)) | (simp [*, errW_none, errW_some] <;> rfl), blA⟩
 ·
  replace c6 := Bool.eq_false_iff.mpr c6
  subst c6
  rw [if_neg (show ¬ (false = true) by decide)] at H
  try dsimp only at H
  obtain rfl := Option.some.inj H
  go_enter Try.func139, Try.ntmps139
  go_wp2_with (first | ((with_reducible refine gate_dst (N := 4) rfl ?_); refine box_event ?hg (N := 4) ?hd (cs := #[.int .i64 a1_0, .int .i64 a1_1, .int .i64 a1_2]) (t := 39) ?hr ?_; (case hd => rfl); (case hg => rfl); (case hr => first | (go_simp; done) | (go_simp; rfl)); intro gb122 hg w14 hbox hb; have BK122 := Aside0.mk (hbox); have GW122 := sA hg; have GE122 := sA hg; replace HB := lB hb; clear hb hbox hg) | ((with_reducible refine gate_dst (N := 5) rfl ?_); refine box_event ?hg (N := 5) ?hd (cs := #[.int .i64 a2_0, .int .i64 a2_1, .int .i64 a2_2]) (t := 39) ?hr ?_; (case hd => rfl); (case hg => rfl); (case hr => first | (go_simp; done) | (go_simp; rfl)); intro gb123 hg w15 hbox hb; have BK123 := Aside0.mk (hbox); have GW123 := sA hg; have GE123 := sA hg; have NB122_123 := nA hg BK122; have NB123_122 := nB hg BK122; replace BK122 := kB BK122 hb; replace HB := lB hb; clear hb hbox hg; have hnb16 := NB122_123.out; have hnc16 := NB123_122.out; have hcz17_0 : w15.cell? ⟨gb122, 0, none⟩ = some (.int .i64 a1_0) := cA BK122 0; have hcz17_1 : w15.cell? ⟨gb122, 1, none⟩ = some (.int .i64 a1_1) := cA BK122 1; have hcz17_2 : w15.cell? ⟨gb122, 2, none⟩ = some (.int .i64 a1_2) := cA BK122 2; have hfz17_0 := blk_frozen BK122.out 0; have hfz17_1 := blk_frozen BK122.out 1; have hfz17_2 := blk_frozen BK122.out 2; have hcz18_0 : w15.cell? ⟨gb123, 0, none⟩ = some (.int .i64 a2_0) := cA BK123 0; have hcz18_1 : w15.cell? ⟨gb123, 1, none⟩ = some (.int .i64 a2_1) := cA BK123 1; have hcz18_2 : w15.cell? ⟨gb123, 2, none⟩ = some (.int .i64 a2_2) := cA BK123 2; have hfz18_0 := blk_frozen BK123.out 0; have hfz18_1 := blk_frozen BK123.out 1; have hfz18_2 := blk_frozen BK123.out 2) | ((with_reducible refine gate_callee (f := 156) rfl ?_); refine goesL_ (some 19) rfl rfl Try.func156 (by kernel_rfl) rfl #[.int .i64 a0, .agg #[.int .i64 a1_0, .int .i64 a1_1, .int .i64 a1_2], .agg #[.int .i64 a2_0, .int .i64 a2_1, .int .i64 a2_2]] rfl hA ?_; (with_reducible refine (spec_l02Valuation.calls k a0 a1_0 a1_1 a1_2 a2_0 a2_1 a2_2 t124 false _ A5.out).mono ?_); rintro e w19 ⟨rfl, hb⟩; refine ⟨_, rfl, ?_⟩; replace BK122 := kB BK122 hb; replace BK123 := kB BK123 hb; replace HB := lB hb; (try clear hb); (try clear hb2); (try clear hk); (try clear hi)))
  go_ret
  exact ⟨by first | rfl | (simp [errW_none, errW_some] <;> rfl) | (simp only [← hji4]; first | rfl | (simp [errW_none, errW_some] <;> rfl)) | (simp [*, errW_none, errW_some] <;> rfl), blA⟩
end Go.Proofs.Ytccpccnnbacgjaa.PAll
