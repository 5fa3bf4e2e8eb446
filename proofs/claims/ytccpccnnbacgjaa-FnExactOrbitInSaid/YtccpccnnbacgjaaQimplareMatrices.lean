-- turned for this claim out of the kit's print: the same functions, packed anew
import Derived.Test.YtccpccnnbacgjaaQx
import Derived.Test.YtccpccnnbacgjaaQLmarkMatrixS
import Derived.Test.YtccpccnnbacgjaaQLtoBall
import Derived.Test.YtccpccnnbacgjaaQimplinverse
import Derived.Test.YtccpccnnbacgjaaQimplofMark
namespace Go.Proofs.Ytccpccnnbacgjaa.PAll
open Go.RowKit Go.Proofs.YtccpccnnbacgjaaW.PrintWords Go.Proofs.YtccpccnnbacgjaaW.PrintLast Go.Proofs.YtccpccnnbacgjaaW.PrintMore
attribute [local go_sem] Go.Proofs.Ytccpccnnbacgjaa.Aux.setCell_drewN Go.Proofs.Ytccpccnnbacgjaa.Aux.isSome_setCell max2_int min2_int max_two min_two max_three min_three max_four min_four   -- for this text's walks alone
set_option linter.unusedVariables false
set_option linter.unusedSimpArgs false
/-! ### impl_joinLevel: function 134 -/
def impl_joinLevel.f (k : Nat) (a0 : Int) (a1_0 : Int) (a1_1 : Int) (a1_2 : Int) (a2_0 : Int) (a2_1 : Int) (a2_2 : Int) : Option (Int) := (impl_mark.f k a0 a1_0 a1_1 a1_2).bind fun t262 => ((impl_mark.f k a0 a2_0 a2_1 a2_2).bind fun t263 => ((impl_valuation.f k a0 (wrap64 (t262 - t263))).bind fun t264 => (some (mn (mn a1_0 a2_0) (wrap64 (t264 - 6))))))
theorem impl_joinLevel.mono : ∀ a0 a1 a2 a3 a4 a5 a6 k, LeO (impl_joinLevel.f k a0 a1 a2 a3 a4 a5 a6) (impl_joinLevel.f (k + 1) a0 a1 a2 a3 a4 a5 a6) := by
 intro a0 a1 a2 a3 a4 a5 a6 k
 unfold impl_joinLevel.f
 repeat' first
   | (with_reducible exact impl_mark.mono _ _ _ _ _)
   | (with_reducible exact impl_valuation.mono _ _ _)
   | (with_reducible exact LeO.refl _)
   | (with_reducible exact LeO.none _)
   | (with_reducible refine LeO.ite ?_ ?_)
   | (with_reducible refine LeO.bind ?_ (fun _ => ?_))
def impl_joinLevel.T1 : Bool × List (List Nat × List Nat) := (true, [([], []), ([0], [0]), ([], []), ([2], [2]), ([], []), ([], []), ([], []), ([5, 6], [5, 6]), ([], []), ([], []), ([8, 9, 7], [8, 9]), ([7, 10], [7, 10]), ([4, 11, 10], [4, 11]), ([12], [12]), ([1, 3, 13], [1, 3, 13]), ([14, 12, 0, 1, 2, 3, 4, 5, 6, 7, 8, 9, 10, 11, 12, 13, 14], [14])])
def impl_joinLevel.B1 : List Nat := [0, 1, 0, 4, 0, 0, 0, 96, 0, 0, 992, 2016, 4080, 8176, 16383, 32767]
theorem impl_joinLevel.tab1 : rtab .any (opsOf Try.f134 1) = impl_joinLevel.T1 := by kernel_rfl
theorem impl_joinLevel.bits1 : waitsOk impl_joinLevel.T1.2 impl_joinLevel.B1 = true := by kernel_rfl
set_option maxHeartbeats 8000000 in
set_option maxRecDepth 100000 in
theorem impl_joinLevel.calls (k : Nat) (a0 : Int) (a1_0 : Int) (a1_1 : Int) (a1_2 : Int) (a2_0 : Int) (a2_1 : Int) (a2_2 : Int) (r : Int) (w : World) (h : impl_joinLevel.f k a0 a1_0 a1_1 a1_2 a2_0 a2_1 a2_2 = some r) :
  Calls Try.prog 134 #[.int .i64 a0, .agg #[.int .i64 a1_0, .int .i64 a1_1, .int .i64 a1_2], .agg #[.int .i64 a2_0, .int .i64 a2_1, .int .i64 a2_2]] w fun e w' => e = .returned (.int .i64 r) ∧ Below w.heap.size w w' := by
 have hu39 := Try.underlying39
 have HB := Aside0.mk (Below.refl w.heap.size w)
 have H := h
 unfold impl_joinLevel.f at H
 clear h
 replace H := bS H
 obtain ⟨t262, A4, H⟩ := H
 try dsimp only at H
 replace H := bS H
 obtain ⟨t263, A5, H⟩ := H
 try dsimp only at H
 replace H := bS H
 obtain ⟨t264, A6, H⟩ := H
 try dsimp only at H
 obtain ⟨ji7, hji7⟩ : ∃ j_ : Int, (mn a1_0 a2_0) = j_ := ⟨_, rfl⟩
 replace H : (some (mn (ji7) (wrap64 (t264 - 6)))) = some r := by first | (rw [hji7] at H; exact H) | (simp only [hji7] at H ⊢; exact H)
 (try rw [hji7] at A4)
 (try rw [hji7] at A5)
 (try rw [hji7] at A6)
 have hji7_ : (if a2_0 < a1_0 then a2_0 else a1_0) = ji7 := hji7
 obtain ⟨ji8, hji8⟩ : ∃ j_ : Int, (mn (ji7) (wrap64 (t264 - 6))) = j_ := ⟨_, rfl⟩
 replace H : (some ji8) = some r := by first | (rw [hji8] at H; exact H) | (simp only [hji8] at H ⊢; exact H)
 (try rw [hji8] at A4)
 (try rw [hji8] at A5)
 (try rw [hji8] at A6)
 have hji8_ : (if (wrap64 (t264 - 6)) < (ji7) then (wrap64 (t264 - 6)) else (ji7)) = ji8 := hji8
 obtain rfl := Option.some.inj H
 go_enter Try.func134, Try.ntmps134
 try go_wp2_with (first | ((with_reducible refine gate_dst (N := 4) rfl ?_); refine box_event ?hg (N := 4) ?hd (cs := #[.int .i64 a1_0, .int .i64 a1_1, .int .i64 a1_2]) (t := 39) ?hr ?_; (case hd => rfl); (case hg => rfl); (case hr => first | (go_simp; done) | (go_simp; rfl)); intro gb260 hg w9 hbox hb; have n0_ := lB hb; have n1_ := Aside0.mk (hbox); have n2_ := sA hg; have n3_ := sA hg; clear HB; have HB := n0_; have BK260 := n1_; have GW260 := n2_; have GE260 := n3_; clear n0_ n1_ n2_ n3_; clear hb hbox hg) | ((with_reducible refine gate_dst (N := 5) rfl ?_); refine box_event ?hg (N := 5) ?hd (cs := #[.int .i64 a2_0, .int .i64 a2_1, .int .i64 a2_2]) (t := 39) ?hr ?_; (case hd => rfl); (case hg => rfl); (case hr => first | (go_simp; done) | (go_simp; rfl)); intro gb261 hg w10 hbox hb; have n0_ := kB BK260 hb; have n1_ := lB hb; have n2_ := Aside0.mk (hbox); have n3_ := sA hg; have n4_ := sA hg; have n5_ := nA hg BK260; have n6_ := nB hg BK260; clear BK260; clear HB; have BK260 := n0_; have HB := n1_; have BK261 := n2_; have GW261 := n3_; have GE261 := n4_; have NB260_261 := n5_; have NB261_260 := n6_; clear n0_ n1_ n2_ n3_ n4_ n5_ n6_; clear hb hbox hg))
 have n0_ := Aside0.mk (blk_drew BK260.out)
 have n1_ := Aside0.mk (blk_drew BK261.out)
 have n2_ := Aside0.mk (below_drew1 HB.out)
 clear BK260
 clear BK261
 clear HB
 have BK260 := n0_
 have BK261 := n1_
 have HB := n2_
 clear n0_ n1_ n2_
 refine start_ (n := 16) (S := fun w' => w'.cell? ⟨gb260, 0, none⟩ = some (.int .i64 a1_0) ∧ w'.cell? ⟨gb260, 1, none⟩ = some (.int .i64 a1_1) ∧ w'.cell? ⟨gb260, 2, none⟩ = some (.int .i64 a1_2) ∧ w'.cell? ⟨gb261, 0, none⟩ = some (.int .i64 a2_0) ∧ w'.cell? ⟨gb261, 1, none⟩ = some (.int .i64 a2_1) ∧ w'.cell? ⟨gb261, 2, none⟩ = some (.int .i64 a2_2)) (ds := []) #[Z, Z, Z, Z, Z, Z, Z, Z, Z, Z, Z, Z, Z, Z, Z, Z] (by kernel_rfl) rfl rfl ⟨cA BK260 0, cA BK260 1, cA BK260 2, cA BK261 0, cA BK261 1, cA BK261 2⟩ (fun hHeld => ?_); refine with_tabW impl_joinLevel.tab1 impl_joinLevel.bits1 (fun HT_ HW_ => ?_)
 generalize w10.drew = w11 at BK260 BK261 HB hHeld ⊢
 refine puA (i := 0) (N := some 7) #[Y, Z, Z, Z, Z, Z, Z, Z, Z, Z, Z, Z, Z, Z, Z, Z] rfl rfl HT_ ?_
 refine puA (i := 2) (N := some 9) #[Y, Z, Y, Z, Z, Z, Z, Z, Z, Z, Z, Z, Z, Z, Z, Z] rfl rfl HT_ ?_
 refine puA (i := 4) (N := some 11) #[Y, Z, Y, Z, Y, Z, Z, Z, Z, Z, Z, Z, Z, Z, Z, Z] rfl rfl HT_ ?_
 refine puA (i := 5) (N := some 12) #[Y, Z, Y, Z, Y, Y, Z, Z, Z, Z, Z, Z, Z, Z, Z, Z] rfl rfl HT_ ?_
 refine puA (i := 8) (N := some 15) #[Y, Z, Y, Z, Y, Y, Z, Z, Y, Z, Z, Z, Z, Z, Z, Z] rfl rfl HT_ ?_
 refine take_ (i := 1) (N := some 8) (v := ?_) (a' := ?_) #[Y, Y, Y, Z, Y, Y, Z, Z, Y, Z, Z, Z, Z, Z, Z, Z] rfl rfl (take_ofW HT_.out HW_.out (by kernel_rfl)) (fun _ _ _ h => h) (Or.inl ⟨by rfl, ?_⟩) hHeld ?_ ?_
 rotate_left
 ·
  rintro w' ⟨s0, s1, s2, s3, s4, s5⟩
  go_simp
  with_reducible rfl
 rotate_left
 ·
  simp only [pA]
  rfl
 refine take_ (i := 3) (N := some 10) (v := ?_) (a' := ?_) #[Y, Y, Y, Y, Y, Y, Z, Z, Y, Z, Z, Z, Z, Z, Z, Z] rfl rfl (take_ofW HT_.out HW_.out (by kernel_rfl)) (fun _ _ _ h => h) (Or.inl ⟨by rfl, ?_⟩) hHeld ?_ ?_
 rotate_left
 ·
  rintro w' ⟨s0, s1, s2, s3, s4, s5⟩
  go_simp
  with_reducible rfl
 rotate_left
 ·
  simp only [pA]
  rfl
 refine take_ (i := 6) (N := some 13) (v := ?_) (a' := ?_) #[Y, Y, Y, Y, Y, Y, Y, Z, Y, Z, Z, Z, Z, Z, Z, Z] rfl rfl (take_ofW HT_.out HW_.out (by kernel_rfl)) (fun _ _ _ h => h) (Or.inl ⟨by rfl, ?_⟩) hHeld ?_ ?_
 rotate_left
 ·
  rintro w' ⟨s0, s1, s2, s3, s4, s5⟩
  go_simp
  with_reducible rfl
 rotate_left
 ·
  simp only [pA]
  rfl
 refine take_ (i := 9) (N := some 16) (v := ?_) (a' := ?_) #[Y, Y, Y, Y, Y, Y, Y, Z, Y, Y, Z, Z, Z, Z, Z, Z] rfl rfl (take_ofW HT_.out HW_.out (by kernel_rfl)) (fun _ _ _ h => h) (Or.inl ⟨by rfl, ?_⟩) hHeld ?_ ?_
 rotate_left
 ·
  rintro w' ⟨s0, s1, s2, s3, s4, s5⟩
  go_simp
  with_reducible rfl
 rotate_left
 ·
  simp only [pA]
  rfl
 refine one_ (i := 7) (N := some 14) #[Y, Y, Y, Y, Y, Y, Y, Y, Y, Y, Z, Z, Z, Z, Z, Z] rfl rfl (one_of HT_.out (by kernel_rfl)) (by decide) (fun K hK => ?_)
 refine goes_ Try.func122 (by kernel_rfl) rfl #[.int .i64 a0, .agg #[.int .i64 a1_0, .int .i64 a1_1, .int .i64 a1_2]] (by rfl) rfl rfl hA ?_
 with_reducible refine (impl_mark.calls k a0 a1_0 a1_1 a1_2 t262 _ A4.out).mono ?_
 rintro e w12 ⟨rfl, hb⟩
 refine ⟨_, rfl, ?_⟩
 replace BK260 := kB BK260 hb
 replace BK261 := kB BK261 hb
 replace HB := lB hb
 (try clear hb)
 (try clear hb2)
 (try clear hk)
 (try clear hi)
 refine hK.out _ _ ⟨cA BK260 0, cA BK260 1, cA BK260 2, cA BK261 0, cA BK261 1, cA BK261 2⟩ (fun hHeld => ?_)
 clear hK K
 refine norm_ (a' := ?_) ?_ ?_
 rotate_left
 ·
  show Act.put _ (some 14) _ = _
  simp only [pA]
  rfl
 refine one_ (i := 10) (N := some 17) #[Y, Y, Y, Y, Y, Y, Y, Y, Y, Y, Y, Z, Z, Z, Z, Z] rfl rfl (one_of HT_.out (by kernel_rfl)) (by decide) (fun K hK => ?_)
 refine goes_ Try.func122 (by kernel_rfl) rfl #[.int .i64 a0, .agg #[.int .i64 a2_0, .int .i64 a2_1, .int .i64 a2_2]] (by rfl) rfl rfl hA ?_
 with_reducible refine (impl_mark.calls k a0 a2_0 a2_1 a2_2 t263 _ A5.out).mono ?_
 rintro e w13 ⟨rfl, hb⟩
 refine ⟨_, rfl, ?_⟩
 replace BK260 := kB BK260 hb
 replace BK261 := kB BK261 hb
 replace HB := lB hb
 (try clear hb)
 (try clear hb2)
 (try clear hk)
 (try clear hi)
 refine hK.out _ _ ⟨cA BK260 0, cA BK260 1, cA BK260 2, cA BK261 0, cA BK261 1, cA BK261 2⟩ (fun hHeld => ?_)
 clear hK K
 refine norm_ (a' := ?_) ?_ ?_
 rotate_left
 ·
  show Act.put _ (some 17) _ = _
  simp only [pA]
  rfl
 refine puA (i := 11) (N := some 18) #[Y, Y, Y, Y, Y, Y, Y, Y, Y, Y, Y, Y, Z, Z, Z, Z] rfl rfl HT_ ?_
 refine one_ (i := 12) (N := some 19) #[Y, Y, Y, Y, Y, Y, Y, Y, Y, Y, Y, Y, Y, Z, Z, Z] rfl rfl (one_of HT_.out (by kernel_rfl)) (by decide) (fun K hK => ?_)
 refine goes_ Try.func123 (by kernel_rfl) rfl #[.int .i64 a0, .int .i64 (wrap64 (t262 - t263))] (by rfl) rfl rfl hA ?_
 with_reducible refine (impl_valuation.calls k a0 (wrap64 (t262 - t263)) t264 _ A6.out).mono ?_
 rintro e w' ⟨rfl, ⟨nd, rfl⟩⟩
 refine ⟨_, rfl, ?_⟩
 refine hK.out _ _ ⟨cA BK260 0, cA BK260 1, cA BK260 2, cA BK261 0, cA BK261 1, cA BK261 2⟩ (fun hHeld => ?_)
 clear hK K
 refine norm_ (a' := ?_) ?_ ?_
 rotate_left
 ·
  show Act.put _ (some 19) _ = _
  simp only [pA]
  rfl
 refine puA (i := 13) (N := some 20) #[Y, Y, Y, Y, Y, Y, Y, Y, Y, Y, Y, Y, Y, Y, Z, Z] rfl rfl HT_ ?_
 refine puA (i := 14) (N := some 21) #[Y, Y, Y, Y, Y, Y, Y, Y, Y, Y, Y, Y, Y, Y, Y, Z] rfl rfl HT_ ?_
 refine puA (i := 15) (N := some 6) #[Y, Y, Y, Y, Y, Y, Y, Y, Y, Y, Y, Y, Y, Y, Y, Y] rfl rfl HT_ ?_
 refine done_ (done_of HT_.out (by kernel_rfl)) ?_
 try go_wp2
 go_ret
 exact ⟨by first | rfl | (simp [errW_none, errW_some] <;> rfl) | (simp only [← hji7, ← hji8]; first | rfl | (simp [errW_none, errW_some] <;> rfl)) | (simp [*, errW_none, errW_some] <;> rfl), blA⟩
/-! ### impl_times: function 149 -/
def impl_times.f (k : Nat) (a0 : Int) (a1 : Int) (a2 : Int) : Option (Int) := (impl_mod.f a0 a2).bind fun t338 => ((impl_mod.f a1 a2).bind fun t339 => ((bits_Mul64.f (IntKind.u64.wrap (t338)) (IntKind.u64.wrap (t339))).bind fun bt340 => (if (IntKind.u64.wrap (a2)) = 0 then (none) else ((bits_Div64.f k (Int.tmod bt340.1 (IntKind.u64.wrap (a2))) bt340.2 (IntKind.u64.wrap (a2))).bind fun bt342 => (some (wrap64 (bt342.2)))))))
theorem impl_times.mono : ∀ a0 a1 a2 k, LeO (impl_times.f k a0 a1 a2) (impl_times.f (k + 1) a0 a1 a2) := by
 intro a0 a1 a2 k
 unfold impl_times.f
 repeat' first
   | (with_reducible exact bits_Div64.mono _ _ _ _)
   | (with_reducible exact LeO.refl _)
   | (with_reducible exact LeO.none _)
   | (with_reducible refine LeO.ite ?_ ?_)
   | (with_reducible refine LeO.bind ?_ (fun _ => ?_))
set_option maxHeartbeats 8000000 in
set_option maxRecDepth 100000 in
theorem impl_times.calls (k : Nat) (a0 : Int) (a1 : Int) (a2 : Int) (r : Int) (w : World) (h : impl_times.f k a0 a1 a2 = some r) :
  Calls Try.prog 149 #[.int .i64 a0, .int .i64 a1, .int .i64 a2] w fun e w' => e = .returned (.int .i64 r) ∧ Drawn0 w w' := by
 have H := h
 unfold impl_times.f at H
 clear h
 replace H := bS H
 obtain ⟨t338, A4, H⟩ := H
 try dsimp only at H
 replace H := bS H
 obtain ⟨t339, A5, H⟩ := H
 try dsimp only at H
 replace H := bS H
 obtain ⟨⟨t340, t341⟩, A6, H⟩ := H
 try dsimp only at H
 by_cases c7 : (IntKind.u64.wrap (a2)) = 0
 ·
  rw [if_pos c7] at H
  exact absurd H (by simp)
 ·
  rw [if_neg c7] at H
  have c7b0 : ((IntKind.u64.wrap (a2)) == 0) = false := beq_eq_false_iff_ne.mpr c7
  have c7b1 : ((IntKind.u64.wrap (a2)) != 0) = true := bne_iff_ne.mpr c7
  replace H := bS H
  obtain ⟨⟨t342, t343⟩, A8, H⟩ := H
  try dsimp only at H
  obtain rfl := Option.some.inj H
  go_enter Try.func149, Try.ntmps149
  go_wp2_with (first | ((with_reducible refine gate_callee (f := 155) rfl ?_); refine goesL_ (some 14) rfl rfl Try.func155 (by kernel_rfl) rfl #[.int .i64 a0, .int .i64 a2] rfl hA ?_; (with_reducible refine (impl_mod.calls a0 a2 t338 _ A4.out).mono ?_); rintro e w' ⟨rfl, ⟨nd, rfl⟩⟩; refine ⟨_, rfl, ?_⟩) | ((with_reducible refine gate_callee (f := 155) rfl ?_); refine goesL_ (some 18) rfl rfl Try.func155 (by kernel_rfl) rfl #[.int .i64 a1, .int .i64 a2] rfl hA ?_; (with_reducible refine (impl_mod.calls a1 a2 t339 _ A5.out).mono ?_); rintro e w' ⟨rfl, ⟨nd, rfl⟩⟩; refine ⟨_, rfl, ?_⟩) | ((with_reducible refine gate_callee (f := 160) rfl ?_); refine goesL_ (some 20) rfl rfl Try.func160 (by kernel_rfl) rfl #[.int .u64 (IntKind.u64.wrap (t338)), .int .u64 (IntKind.u64.wrap (t339))] rfl hA ?_; (with_reducible refine (bits_Mul64.calls (IntKind.u64.wrap (t338)) (IntKind.u64.wrap (t339)) t340 t341 _ A6.out).mono ?_); rintro e w' ⟨rfl, ⟨nd, rfl⟩⟩; refine ⟨_, rfl, ?_⟩) | ((with_reducible refine gate_callee (f := 161) rfl ?_); refine goesL_ (some 31) rfl rfl Try.func161 (by kernel_rfl) rfl #[.int .u64 (Int.tmod t340 (IntKind.u64.wrap (a2))), .int .u64 t341, .int .u64 (IntKind.u64.wrap (a2))] rfl hA ?_; (with_reducible refine (bits_Div64.calls k (Int.tmod t340 (IntKind.u64.wrap (a2))) t341 (IntKind.u64.wrap (a2)) t342 t343 _ A8.out).mono ?_); rintro e w' ⟨rfl, ⟨nd, rfl⟩⟩; refine ⟨_, rfl, ?_⟩))
  go_ret
  exact ⟨by first | rfl | (simp; done) | (simp [*]; done), by repeat (first | exact Drawn0.refl _ | apply Drawn0.step)⟩
/-! ### impl_reduced: function 135 -/
set_option maxHeartbeats 8000000 in
set_option maxRecDepth 100000 in
theorem impl_gcd.quiet (k : Nat) (a0 : Int) (a1 : Int) (r : Int) (w : World) (h : impl_gcd.f k a0 a1 = some r) :
  Calls Try.prog 129 #[.int .i64 a0, .int .i64 a1] w fun e w' => e = .returned (.int .i64 r) ∧ Drawn0 w w' := by
 have HB := Aside0.mk (Drawn0.refl w)
 have H := h
 unfold impl_gcd.f at H
 clear h
 have H' := Aside0.mk H
 clear H
 go_enter Try.func129, Try.ntmps129
 go_wp2
 repeat (go_quiet (fail); try go_wp2)
 go_loopg [0, 1] k (fun kq v0 v1 w' => ∃ (x0_1 : Int) (x1_1 : Int), v0 = .int .i64 x0_1 ∧ v1 = .int .i64 x1_1 ∧ Aside0 (impl_gcd.l0 kq x0_1 x1_1 = some r) ∧ Aside0 (kq ≤ k) ∧ Aside0 (Drawn0 w w'))
 case atStart => exact ⟨(a0), (a1), rfl, rfl, H', ⟨Nat.le_refl _⟩, ⟨by repeat (first | exact HB.out | apply Drawn0.step | exact Drawn0.step HB.out 1)⟩⟩
 case round =>
  clear H'
  obtain ⟨x0_1, x1_1, rfl, rfl, HA, HK1, HB⟩ := hrel
  cases gk with
  | zero => exact absurd HA.out (by simp [impl_gcd.l0])
  | succ k1 =>
   have H := HA.out
   clear HA
   simp only [impl_gcd.l0] at H
   by_cases c3 : x1_1 = 0
   ·
    rw [if_pos c3] at H
    have c3b0 : (x1_1 == 0) = true := beq_iff_eq.mpr c3
    have c3b1 : (x1_1 != 0) = false := bne_eq_false_iff_eq.mpr c3
    clear c3
    obtain ⟨ji4, hji4⟩ : ∃ j_ : Int, (mx x0_1 (wrap64 (-x0_1))) = j_ := ⟨_, rfl⟩
    replace H : (some ji4) = some r := by first | (rw [hji4] at H; exact H) | (simp only [hji4] at H ⊢; exact H)
    have hji4_ : (if x0_1 < (wrap64 (-x0_1)) then (wrap64 (-x0_1)) else x0_1) = ji4 := hji4
    obtain rfl := Option.some.inj H
    go_wp2
    repeat (go_quiet (fail); try go_wp2)
    go_ret
    exact ⟨by first | rfl | (simp only [← hji4]; first | rfl | (simp <;> rfl)) | (simp [*] <;> rfl), by repeat (first | exact HB.out | apply Drawn0.step | exact Drawn0.step HB.out 1)⟩
   ·
    rw [if_neg c3] at H
    have c3b0 : (x1_1 == 0) = false := beq_eq_false_iff_ne.mpr c3
    have c3b1 : (x1_1 != 0) = true := bne_iff_ne.mpr c3
    have H' := Aside0.mk H
    clear H
    go_wp2
    repeat (go_quiet (fail); try go_wp2)
    go_roundg k1
    case measure => have := HK1.out; omega
    case rel => exact ⟨(x1_1), (Int.tmod x0_1 x1_1), rfl, rfl, H', ⟨by have := HK1.out; omega⟩, ⟨by repeat (first | exact HB.out | apply Drawn0.step | exact Drawn0.step HB.out 1)⟩⟩
def impl_reduced.g (k : Nat) (a0_0 a0_1 a0_2 a0_3 b_ : Int) : Option (Int × Int × Int × Int × Bool) := if b_ = 0 then none else (impl_IsMatrix.f k (wrap64 (Int.tdiv a0_0 b_)) (wrap64 (Int.tdiv a0_1 b_)) (wrap64 (Int.tdiv a0_2 b_)) (wrap64 (Int.tdiv a0_3 b_))).bind fun t4 => some (wrap64 (Int.tdiv a0_0 b_), wrap64 (Int.tdiv a0_1 b_), wrap64 (Int.tdiv a0_2 b_), wrap64 (Int.tdiv a0_3 b_), t4)
def impl_reduced.nb (a b : Int) : Bool := decide (a < 0 ∨ (a = 0 ∧ b < 0))
def impl_reduced.by_ (a b t : Int) : Int := if impl_reduced.nb a b = true then wrap64 (-t) else t
def impl_reduced.f (k : Nat) (a0_0 a0_1 a0_2 a0_3 : Int) : Option (Int × Int × Int × Int × Bool) := (impl_gcd.f k a0_0 a0_1).bind fun t1 => (impl_gcd.f k a0_2 a0_3).bind fun t2 => (impl_gcd.f k t1 t2).bind fun t3 => impl_reduced.g k a0_0 a0_1 a0_2 a0_3 (impl_reduced.by_ a0_0 a0_1 t3)
theorem impl_reduced.mono : ∀ a0_0 a0_1 a0_2 a0_3 k, LeO (impl_reduced.f k a0_0 a0_1 a0_2 a0_3) (impl_reduced.f (k + 1) a0_0 a0_1 a0_2 a0_3) := by
 intro a b c d k
 unfold impl_reduced.f impl_reduced.g
 repeat' first
   | (with_reducible exact impl_gcd.mono _ _ _)
   | (with_reducible exact impl_IsMatrix.mono _ _ _ _ _)
   | (with_reducible exact LeO.refl _)
   | (with_reducible exact LeO.none _)
   | (with_reducible refine LeO.ite ?_ ?_)
   | (with_reducible refine LeO.bind ?_ (fun _ => ?_))
set_option maxHeartbeats 8000000 in
set_option maxRecDepth 100000 in
theorem impl_reduced.calls (k : Nat) (a0_0 a0_1 a0_2 a0_3 r1 r2 r3 r4 : Int) (r5 : Bool) (w : World) (h : impl_reduced.f k a0_0 a0_1 a0_2 a0_3 = some (r1, r2, r3, r4, r5)) :
  Calls Try.prog 135 #[.agg #[.int .i64 a0_0, .int .i64 a0_1, .int .i64 a0_2, .int .i64 a0_3]] w fun e w' => e = .returned (.tuple #[.agg #[.int .i64 r1, .int .i64 r2, .int .i64 r3, .int .i64 r4], .bool r5]) ∧ Below w.heap.size w w' := by
 unfold impl_reduced.f at h
 replace h := Option.bind_eq_some_iff.mp h
 obtain ⟨t1, A10, h⟩ := h
 have A1 := Aside0.mk A10
 clear A10
 replace h := Option.bind_eq_some_iff.mp h
 obtain ⟨t2, A20, h⟩ := h
 have A2 := Aside0.mk A20
 clear A20
 replace h := Option.bind_eq_some_iff.mp h
 obtain ⟨t3, A30, h⟩ := h
 have A3 := Aside0.mk A30
 clear A30
 have HB := Aside0.mk (Below.refl w.heap.size w)
 unfold impl_reduced.g at h
 by_cases c0 : (impl_reduced.by_ a0_0 a0_1 t3) = 0
 ·
  rw [if_pos c0] at h; cases h
 rw [if_neg c0] at h
 replace h := Option.bind_eq_some_iff.mp h
 obtain ⟨t4, A40, h⟩ := h
 have A4 := Aside0.mk A40
 clear A40
 simp only [Option.some.injEq, Prod.mk.injEq] at h
 obtain ⟨rfl, rfl, rfl, rfl, rfl⟩ := h
 have c0b : ((impl_reduced.by_ a0_0 a0_1 t3) == 0) = false := beq_eq_false_iff_ne.mpr c0
 have c0c : ((impl_reduced.by_ a0_0 a0_1 t3) != 0) = true := bne_iff_ne.mpr c0
 go_enter Try.func135, Try.ntmps135
 go_wp2_with (first | ((with_reducible refine gate_dst (N := 1) rfl ?_); refine box_event ?hg (N := 1) ?hd (cs := #[.int .i64 a0_0, .int .i64 a0_1, .int .i64 a0_2, .int .i64 a0_3]) (t := 26) ?hr ?_; (case hd => rfl); (case hg => rfl); (case hr => first | (go_simp; done) | (go_simp; rfl)); intro ga hg wa hbox hb; have BKa := Aside0.mk hbox; have GEa := sA hg; replace HB := lB hb; clear hb hbox hg) | ((with_reducible refine gate_dst (N := 2) rfl ?_); refine box_event ?hg (N := 2) ?hd (cs := #[.int .i64 0, .int .i64 0, .int .i64 0, .int .i64 0]) (t := 26) ?hr ?_; (case hd => rfl); (case hg => rfl); (case hr => first | (go_simp; done) | (go_simp; rfl)); intro gr hg wr hbox hb; have BKr := Aside0.mk hbox; have GEr := sA hg; have NEa_r := Aside0.mk (neA hg (bkA BKa)); replace BKa := Aside0.mk (blk_below (bkA BKa) hb); replace HB := lB hb; clear hb hbox hg))
 have NEr_a := Aside0.mk (Ne.symm NEa_r.out)
 have hca_0 : wr.cell? ⟨ga, 0, none⟩ = some (.int .i64 a0_0) := (blk_cell BKa.out 0).trans rfl
 have hca_1 : wr.cell? ⟨ga, 1, none⟩ = some (.int .i64 a0_1) := (blk_cell BKa.out 1).trans rfl
 have hca_2 : wr.cell? ⟨ga, 2, none⟩ = some (.int .i64 a0_2) := (blk_cell BKa.out 2).trans rfl
 have hca_3 : wr.cell? ⟨ga, 3, none⟩ = some (.int .i64 a0_3) := (blk_cell BKa.out 3).trans rfl
 go_quiet ((go_at_call 129; (first | (with_reducible refine Calls.quiet_of ((impl_gcd.quiet k a0_0 a0_1 t1 _ A1.out).mono fun _ _ h_ => ⟨h_.1, h_.2.out⟩)) | (with_reducible refine Calls.quiet_of ((impl_gcd.quiet k a0_2 a0_3 t2 _ A2.out).mono fun _ _ h_ => ⟨h_.1, h_.2.out⟩)) | (with_reducible refine Calls.quiet_of ((impl_gcd.quiet k t1 t2 t3 _ A3.out).mono fun _ _ h_ => ⟨h_.1, h_.2.out⟩)))))
 go_upto_region 2 with fail
 go_cut [37] from 22 to 37 (fun v wx => v = .bool (impl_reduced.nb a0_0 a0_1) ∧ wx = wr.drewN nq)
 case first =>
  by_cases e0 : a0_0 = 0
  ·
   subst e0
   go_wp2_with fail
   all_goals go_meet
   all_goals refine ⟨congrArg Value.bool ?_, rfl⟩
   all_goals clear hca_0 hca_1 hca_2 hca_3
   all_goals unfold impl_reduced.nb
   all_goals (rw [Bool.eq_iff_iff]; simp)
  ·
   have e0b : (a0_0 == 0) = false := beq_eq_false_iff_ne.mpr e0
   go_wp2_with fail
   all_goals go_meet
   all_goals refine ⟨congrArg Value.bool ?_, rfl⟩
   all_goals clear hca_0 hca_1 hca_2 hca_3
   all_goals unfold impl_reduced.nb
   all_goals (rw [Bool.eq_iff_iff]; simp [e0] at *; try omega)
 case rest =>
  obtain ⟨rfl, rfl⟩ := hcut
  obtain ⟨nb_, hnb_⟩ : ∃ x, x = impl_reduced.nb a0_0 a0_1 := ⟨_, rfl⟩
  rw [← hnb_]
  have HN := Aside0.mk hnb_
  clear hnb_
  go_upto_if 37 with fail
  go_cut [4] from 38 to 39 (fun v wx => v = .int .i64 (impl_reduced.by_ a0_0 a0_1 t3) ∧ wx = wr.drewN nq)
  case first =>
   go_wp2_with fail
   all_goals go_meet
   all_goals refine ⟨congrArg (Value.int .i64) ?_, rfl⟩
   all_goals (unfold impl_reduced.by_; rw [← HN.out])
   all_goals (try simp only [*])
   all_goals first | rfl | (simp; done)
  case rest =>
   obtain ⟨rfl, rfl⟩ := hcut
   go_wp2
   refine name_world (fun w' => w'.heap[gr]? = some (.cells #[.int .i64 0, .int .i64 0, .int .i64 0, .int .i64 0] 26 (0, 0)) ∧ w'.heap[ga]? = some (.cells #[.int .i64 a0_0, .int .i64 a0_1, .int .i64 a0_2, .int .i64 a0_3] 26 (0, 0)) ∧ Below w.heap.size w w') ⟨by repeat (first | (with_reducible exact BKr.out) | (with_reducible first | refine blk_drewN ?_ _ | refine blk_drew ?_ | refine blk_alloc ?_ _) | refine blk_far ?_ NEr_a.out _), by (with_reducible repeat (first | refine blk_drewN ?_ _ | refine blk_drew ?_ | refine blk_alloc ?_ _)); exact BKa.out, by repeat (first | (with_reducible exact HB.out) | (with_reducible first | apply pw_below_drewN | apply below_alloc | apply below_drew1) | refine below_set ?_ GEa.out)⟩ ?_
   clear BKr BKa HB
   clear hca_0 hca_1 hca_2 hca_3
   rintro wA ⟨hr, ha, hbel⟩
   have BKr := Aside0.mk hr
   have BKa := Aside0.mk ha
   have HB := Aside0.mk hbel
   clear hbel hr ha
   have hcr_0 : wA.cell? ⟨gr, 0, none⟩ = some (.int .i64 0) := (blk_cell BKr.out 0).trans rfl
   have hcr_1 : wA.cell? ⟨gr, 1, none⟩ = some (.int .i64 0) := (blk_cell BKr.out 1).trans rfl
   have hcr_2 : wA.cell? ⟨gr, 2, none⟩ = some (.int .i64 0) := (blk_cell BKr.out 2).trans rfl
   have hcr_3 : wA.cell? ⟨gr, 3, none⟩ = some (.int .i64 0) := (blk_cell BKr.out 3).trans rfl
   have hca_0 : wA.cell? ⟨ga, 0, none⟩ = some (.int .i64 a0_0) := (blk_cell BKa.out 0).trans rfl
   have hca_1 : wA.cell? ⟨ga, 1, none⟩ = some (.int .i64 a0_1) := (blk_cell BKa.out 1).trans rfl
   have hca_2 : wA.cell? ⟨ga, 2, none⟩ = some (.int .i64 a0_2) := (blk_cell BKa.out 2).trans rfl
   have hca_3 : wA.cell? ⟨ga, 3, none⟩ = some (.int .i64 a0_3) := (blk_cell BKa.out 3).trans rfl
   have hf_ : ∀ i, wA.frozen? ⟨ga, i, none⟩ = false := fun i => blk_frozen BKa.out i
   refine wp_loop_rounds 3 ?_
   rw [rounds_succ]; go_wp2
   refine wp_loop_rounds 3 ?_
   rw [rounds_succ]; go_wp2
   refine wp_region_still_tail 9 (by kernel_rfl) (by kernel_rfl) ?_
   change wpStill _ _ wA.drew (fun a' => wpList _ _ _ _ a' wA.drew) _ _
   simp only [List.take_succ_cons, List.take_zero, List.drop_succ_cons, List.drop_zero]
   repeat still_step
   refine wpStill_nil ?_
   go_wp2
   rw [rounds_succ]; go_wp2
   refine name_world (fun w' => w'.heap[gr]? = some (.cells #[.int .i64 0, .int .i64 0, .int .i64 0, .int .i64 0] 26 (0, 0)) ∧ w'.heap[ga]? = some (.cells #[.int .i64 (wrap64 (Int.tdiv a0_0 (impl_reduced.by_ a0_0 a0_1 t3))), .int .i64 a0_1, .int .i64 a0_2, .int .i64 a0_3] 26 (0, 0)) ∧ Below w.heap.size w w') ⟨by repeat (first | (with_reducible exact BKr.out) | (with_reducible first | refine blk_drewN ?_ _ | refine blk_drew ?_ | refine blk_alloc ?_ _) | refine blk_far ?_ NEr_a.out _), by refine dr ?_; refine blk_put (cs := #[.int .i64 a0_0, .int .i64 a0_1, .int .i64 a0_2, .int .i64 a0_3]) ?_ 0 _ rfl; (with_reducible repeat (first | refine blk_drewN ?_ _ | refine blk_drew ?_ | refine blk_alloc ?_ _)); exact BKa.out, by repeat (first | (with_reducible exact HB.out) | (with_reducible first | apply pw_below_drewN | apply below_alloc | apply below_drew1) | refine below_set ?_ GEa.out)⟩ ?_
   clear BKr BKa HB
   clear hcr_0 hcr_1 hcr_2 hcr_3 hca_0 hca_1 hca_2 hca_3 hf_
   rintro wB ⟨hr, ha, hbel⟩
   have BKr := Aside0.mk hr
   have BKa := Aside0.mk ha
   have HB := Aside0.mk hbel
   clear hbel hr ha
   have hcr_0 : wB.cell? ⟨gr, 0, none⟩ = some (.int .i64 0) := (blk_cell BKr.out 0).trans rfl
   have hcr_1 : wB.cell? ⟨gr, 1, none⟩ = some (.int .i64 0) := (blk_cell BKr.out 1).trans rfl
   have hcr_2 : wB.cell? ⟨gr, 2, none⟩ = some (.int .i64 0) := (blk_cell BKr.out 2).trans rfl
   have hcr_3 : wB.cell? ⟨gr, 3, none⟩ = some (.int .i64 0) := (blk_cell BKr.out 3).trans rfl
   have hca_0 : wB.cell? ⟨ga, 0, none⟩ = some (.int .i64 (wrap64 (Int.tdiv a0_0 (impl_reduced.by_ a0_0 a0_1 t3)))) := (blk_cell BKa.out 0).trans rfl
   have hca_1 : wB.cell? ⟨ga, 1, none⟩ = some (.int .i64 a0_1) := (blk_cell BKa.out 1).trans rfl
   have hca_2 : wB.cell? ⟨ga, 2, none⟩ = some (.int .i64 a0_2) := (blk_cell BKa.out 2).trans rfl
   have hca_3 : wB.cell? ⟨ga, 3, none⟩ = some (.int .i64 a0_3) := (blk_cell BKa.out 3).trans rfl
   have hf_ : ∀ i, wB.frozen? ⟨ga, i, none⟩ = false := fun i => blk_frozen BKa.out i
   refine wp_region_still_tail 9 (by kernel_rfl) (by kernel_rfl) ?_
   change wpStill _ _ wB.drew (fun a' => wpList _ _ _ _ a' wB.drew) _ _
   simp only [List.take_succ_cons, List.take_zero, List.drop_succ_cons, List.drop_zero]
   repeat still_step
   refine wpStill_nil ?_
   go_wp2
   rw [rounds_succ]; go_wp2
   rw [rounds_succ]; go_wp2
   refine wp_loop_rounds 3 ?_
   rw [rounds_succ]; go_wp2
   refine name_world (fun w' => w'.heap[gr]? = some (.cells #[.int .i64 0, .int .i64 0, .int .i64 0, .int .i64 0] 26 (0, 0)) ∧ w'.heap[ga]? = some (.cells #[.int .i64 (wrap64 (Int.tdiv a0_0 (impl_reduced.by_ a0_0 a0_1 t3))), .int .i64 (wrap64 (Int.tdiv a0_1 (impl_reduced.by_ a0_0 a0_1 t3))), .int .i64 a0_2, .int .i64 a0_3] 26 (0, 0)) ∧ Below w.heap.size w w') ⟨by repeat (first | (with_reducible exact BKr.out) | (with_reducible first | refine blk_drewN ?_ _ | refine blk_drew ?_ | refine blk_alloc ?_ _) | refine blk_far ?_ NEr_a.out _), by refine dr ?_; refine blk_put (cs := #[.int .i64 (wrap64 (Int.tdiv a0_0 (impl_reduced.by_ a0_0 a0_1 t3))), .int .i64 a0_1, .int .i64 a0_2, .int .i64 a0_3]) ?_ 1 _ rfl; (with_reducible repeat (first | refine blk_drewN ?_ _ | refine blk_drew ?_ | refine blk_alloc ?_ _)); exact BKa.out, by repeat (first | (with_reducible exact HB.out) | (with_reducible first | apply pw_below_drewN | apply below_alloc | apply below_drew1) | refine below_set ?_ GEa.out)⟩ ?_
   clear BKr BKa HB
   clear hcr_0 hcr_1 hcr_2 hcr_3 hca_0 hca_1 hca_2 hca_3 hf_
   rintro wC ⟨hr, ha, hbel⟩
   have BKr := Aside0.mk hr
   have BKa := Aside0.mk ha
   have HB := Aside0.mk hbel
   clear hbel hr ha
   have hcr_0 : wC.cell? ⟨gr, 0, none⟩ = some (.int .i64 0) := (blk_cell BKr.out 0).trans rfl
   have hcr_1 : wC.cell? ⟨gr, 1, none⟩ = some (.int .i64 0) := (blk_cell BKr.out 1).trans rfl
   have hcr_2 : wC.cell? ⟨gr, 2, none⟩ = some (.int .i64 0) := (blk_cell BKr.out 2).trans rfl
   have hcr_3 : wC.cell? ⟨gr, 3, none⟩ = some (.int .i64 0) := (blk_cell BKr.out 3).trans rfl
   have hca_0 : wC.cell? ⟨ga, 0, none⟩ = some (.int .i64 (wrap64 (Int.tdiv a0_0 (impl_reduced.by_ a0_0 a0_1 t3)))) := (blk_cell BKa.out 0).trans rfl
   have hca_1 : wC.cell? ⟨ga, 1, none⟩ = some (.int .i64 (wrap64 (Int.tdiv a0_1 (impl_reduced.by_ a0_0 a0_1 t3)))) := (blk_cell BKa.out 1).trans rfl
   have hca_2 : wC.cell? ⟨ga, 2, none⟩ = some (.int .i64 a0_2) := (blk_cell BKa.out 2).trans rfl
   have hca_3 : wC.cell? ⟨ga, 3, none⟩ = some (.int .i64 a0_3) := (blk_cell BKa.out 3).trans rfl
   have hf_ : ∀ i, wC.frozen? ⟨ga, i, none⟩ = false := fun i => blk_frozen BKa.out i
   refine wp_region_still_tail 9 (by kernel_rfl) (by kernel_rfl) ?_
   change wpStill _ _ wC.drew (fun a' => wpList _ _ _ _ a' wC.drew) _ _
   simp only [List.take_succ_cons, List.take_zero, List.drop_succ_cons, List.drop_zero]
   repeat still_step
   refine wpStill_nil ?_
   go_wp2
   rw [rounds_succ]; go_wp2
   refine name_world (fun w' => w'.heap[gr]? = some (.cells #[.int .i64 0, .int .i64 0, .int .i64 0, .int .i64 0] 26 (0, 0)) ∧ w'.heap[ga]? = some (.cells #[.int .i64 (wrap64 (Int.tdiv a0_0 (impl_reduced.by_ a0_0 a0_1 t3))), .int .i64 (wrap64 (Int.tdiv a0_1 (impl_reduced.by_ a0_0 a0_1 t3))), .int .i64 (wrap64 (Int.tdiv a0_2 (impl_reduced.by_ a0_0 a0_1 t3))), .int .i64 a0_3] 26 (0, 0)) ∧ Below w.heap.size w w') ⟨by repeat (first | (with_reducible exact BKr.out) | (with_reducible first | refine blk_drewN ?_ _ | refine blk_drew ?_ | refine blk_alloc ?_ _) | refine blk_far ?_ NEr_a.out _), by refine dr ?_; refine blk_put (cs := #[.int .i64 (wrap64 (Int.tdiv a0_0 (impl_reduced.by_ a0_0 a0_1 t3))), .int .i64 (wrap64 (Int.tdiv a0_1 (impl_reduced.by_ a0_0 a0_1 t3))), .int .i64 a0_2, .int .i64 a0_3]) ?_ 2 _ rfl; (with_reducible repeat (first | refine blk_drewN ?_ _ | refine blk_drew ?_ | refine blk_alloc ?_ _)); exact BKa.out, by repeat (first | (with_reducible exact HB.out) | (with_reducible first | apply pw_below_drewN | apply below_alloc | apply below_drew1) | refine below_set ?_ GEa.out)⟩ ?_
   clear BKr BKa HB
   clear hcr_0 hcr_1 hcr_2 hcr_3 hca_0 hca_1 hca_2 hca_3 hf_
   rintro wD ⟨hr, ha, hbel⟩
   have BKr := Aside0.mk hr
   have BKa := Aside0.mk ha
   have HB := Aside0.mk hbel
   clear hbel hr ha
   have hcr_0 : wD.cell? ⟨gr, 0, none⟩ = some (.int .i64 0) := (blk_cell BKr.out 0).trans rfl
   have hcr_1 : wD.cell? ⟨gr, 1, none⟩ = some (.int .i64 0) := (blk_cell BKr.out 1).trans rfl
   have hcr_2 : wD.cell? ⟨gr, 2, none⟩ = some (.int .i64 0) := (blk_cell BKr.out 2).trans rfl
   have hcr_3 : wD.cell? ⟨gr, 3, none⟩ = some (.int .i64 0) := (blk_cell BKr.out 3).trans rfl
   have hca_0 : wD.cell? ⟨ga, 0, none⟩ = some (.int .i64 (wrap64 (Int.tdiv a0_0 (impl_reduced.by_ a0_0 a0_1 t3)))) := (blk_cell BKa.out 0).trans rfl
   have hca_1 : wD.cell? ⟨ga, 1, none⟩ = some (.int .i64 (wrap64 (Int.tdiv a0_1 (impl_reduced.by_ a0_0 a0_1 t3)))) := (blk_cell BKa.out 1).trans rfl
   have hca_2 : wD.cell? ⟨ga, 2, none⟩ = some (.int .i64 (wrap64 (Int.tdiv a0_2 (impl_reduced.by_ a0_0 a0_1 t3)))) := (blk_cell BKa.out 2).trans rfl
   have hca_3 : wD.cell? ⟨ga, 3, none⟩ = some (.int .i64 a0_3) := (blk_cell BKa.out 3).trans rfl
   have hf_ : ∀ i, wD.frozen? ⟨ga, i, none⟩ = false := fun i => blk_frozen BKa.out i
   refine wp_region_still_tail 9 (by kernel_rfl) (by kernel_rfl) ?_
   change wpStill _ _ wD.drew (fun a' => wpList _ _ _ _ a' wD.drew) _ _
   simp only [List.take_succ_cons, List.take_zero, List.drop_succ_cons, List.drop_zero]
   repeat still_step
   refine wpStill_nil ?_
   go_wp2
   rw [rounds_succ]; go_wp2
   rw [rounds_succ]
   refine name_world (fun w' => w'.heap[gr]? = some (.cells #[.int .i64 0, .int .i64 0, .int .i64 0, .int .i64 0] 26 (0, 0)) ∧ w'.heap[ga]? = some (.cells #[.int .i64 (wrap64 (Int.tdiv a0_0 (impl_reduced.by_ a0_0 a0_1 t3))), .int .i64 (wrap64 (Int.tdiv a0_1 (impl_reduced.by_ a0_0 a0_1 t3))), .int .i64 (wrap64 (Int.tdiv a0_2 (impl_reduced.by_ a0_0 a0_1 t3))), .int .i64 (wrap64 (Int.tdiv a0_3 (impl_reduced.by_ a0_0 a0_1 t3)))] 26 (0, 0)) ∧ Below w.heap.size w w') ⟨by repeat (first | (with_reducible exact BKr.out) | (with_reducible first | refine blk_drewN ?_ _ | refine blk_drew ?_ | refine blk_alloc ?_ _) | refine blk_far ?_ NEr_a.out _), by refine dr ?_; refine blk_put (cs := #[.int .i64 (wrap64 (Int.tdiv a0_0 (impl_reduced.by_ a0_0 a0_1 t3))), .int .i64 (wrap64 (Int.tdiv a0_1 (impl_reduced.by_ a0_0 a0_1 t3))), .int .i64 (wrap64 (Int.tdiv a0_2 (impl_reduced.by_ a0_0 a0_1 t3))), .int .i64 a0_3]) ?_ 3 _ rfl; (with_reducible repeat (first | refine blk_drewN ?_ _ | refine blk_drew ?_ | refine blk_alloc ?_ _)); exact BKa.out, by repeat (first | (with_reducible exact HB.out) | (with_reducible first | apply pw_below_drewN | apply below_alloc | apply below_drew1) | refine below_set ?_ GEa.out)⟩ ?_
   clear BKr BKa HB
   clear hcr_0 hcr_1 hcr_2 hcr_3 hca_0 hca_1 hca_2 hca_3 hf_
   rintro wE ⟨hr, ha, hbel⟩
   have BKr := Aside0.mk hr
   have BKa := Aside0.mk ha
   have HB := Aside0.mk hbel
   clear hbel hr ha
   have hcr_0 : wE.cell? ⟨gr, 0, none⟩ = some (.int .i64 0) := (blk_cell BKr.out 0).trans rfl
   have hcr_1 : wE.cell? ⟨gr, 1, none⟩ = some (.int .i64 0) := (blk_cell BKr.out 1).trans rfl
   have hcr_2 : wE.cell? ⟨gr, 2, none⟩ = some (.int .i64 0) := (blk_cell BKr.out 2).trans rfl
   have hcr_3 : wE.cell? ⟨gr, 3, none⟩ = some (.int .i64 0) := (blk_cell BKr.out 3).trans rfl
   have hca_0 : wE.cell? ⟨ga, 0, none⟩ = some (.int .i64 (wrap64 (Int.tdiv a0_0 (impl_reduced.by_ a0_0 a0_1 t3)))) := (blk_cell BKa.out 0).trans rfl
   have hca_1 : wE.cell? ⟨ga, 1, none⟩ = some (.int .i64 (wrap64 (Int.tdiv a0_1 (impl_reduced.by_ a0_0 a0_1 t3)))) := (blk_cell BKa.out 1).trans rfl
   have hca_2 : wE.cell? ⟨ga, 2, none⟩ = some (.int .i64 (wrap64 (Int.tdiv a0_2 (impl_reduced.by_ a0_0 a0_1 t3)))) := (blk_cell BKa.out 2).trans rfl
   have hca_3 : wE.cell? ⟨ga, 3, none⟩ = some (.int .i64 (wrap64 (Int.tdiv a0_3 (impl_reduced.by_ a0_0 a0_1 t3)))) := (blk_cell BKa.out 3).trans rfl
   have hf_ : ∀ i, wE.frozen? ⟨ga, i, none⟩ = false := fun i => blk_frozen BKa.out i
   go_wp2
   go_region_with (go_at_call 79; with_reducible refine (impl_IsMatrix.calls k _ _ _ _ t4 _ A4.out).mono ?_; intro e w5 ⟨he, hb⟩; subst he; clear hca_0 hca_1 hca_2 hca_3 hcr_0 hcr_1 hcr_2 hcr_3 hf_; replace BKr := Aside0.mk (blk_below (bkA BKr) hb); replace HB := lB hb; replace BKa := Aside0.mk (blk_below (bkA BKa) hb); clear hb; have hcr5_0 : w5.cell? ⟨gr, 0, none⟩ = some (.int .i64 0) := (blk_cell BKr.out 0).trans rfl; have hfr5_0 := blk_frozen BKr.out 0; have hca5_0 : w5.cell? ⟨ga, 0, none⟩ = some (.int .i64 (wrap64 (Int.tdiv a0_0 (impl_reduced.by_ a0_0 a0_1 t3)))) := (blk_cell BKa.out 0).trans rfl; have hcr5_1 : w5.cell? ⟨gr, 1, none⟩ = some (.int .i64 0) := (blk_cell BKr.out 1).trans rfl; have hfr5_1 := blk_frozen BKr.out 1; have hca5_1 : w5.cell? ⟨ga, 1, none⟩ = some (.int .i64 (wrap64 (Int.tdiv a0_1 (impl_reduced.by_ a0_0 a0_1 t3)))) := (blk_cell BKa.out 1).trans rfl; have hcr5_2 : w5.cell? ⟨gr, 2, none⟩ = some (.int .i64 0) := (blk_cell BKr.out 2).trans rfl; have hfr5_2 := blk_frozen BKr.out 2; have hca5_2 : w5.cell? ⟨ga, 2, none⟩ = some (.int .i64 (wrap64 (Int.tdiv a0_2 (impl_reduced.by_ a0_0 a0_1 t3)))) := (blk_cell BKa.out 2).trans rfl; have hcr5_3 : w5.cell? ⟨gr, 3, none⟩ = some (.int .i64 0) := (blk_cell BKr.out 3).trans rfl; have hfr5_3 := blk_frozen BKr.out 3; have hca5_3 : w5.cell? ⟨ga, 3, none⟩ = some (.int .i64 (wrap64 (Int.tdiv a0_3 (impl_reduced.by_ a0_0 a0_1 t3)))) := (blk_cell BKa.out 3).trans rfl)
   all_goals go_wp2
   all_goals refine bodyPost_ret (results_ct rfl _ _ gr 26 #[.int .i64 (wrap64 (Int.tdiv a0_0 (impl_reduced.by_ a0_0 a0_1 t3))), .int .i64 (wrap64 (Int.tdiv a0_1 (impl_reduced.by_ a0_0 a0_1 t3))), .int .i64 (wrap64 (Int.tdiv a0_2 (impl_reduced.by_ a0_0 a0_1 t3))), .int .i64 (wrap64 (Int.tdiv a0_3 (impl_reduced.by_ a0_0 a0_1 t3)))] (0, 0) _ rfl (by refine dr ?_; refine blk_put (cs := #[.int .i64 (wrap64 (Int.tdiv a0_0 (impl_reduced.by_ a0_0 a0_1 t3))), .int .i64 (wrap64 (Int.tdiv a0_1 (impl_reduced.by_ a0_0 a0_1 t3))), .int .i64 (wrap64 (Int.tdiv a0_2 (impl_reduced.by_ a0_0 a0_1 t3))), .int .i64 0]) ?_ 3 _ rfl; refine dr ?_; refine blk_put (cs := #[.int .i64 (wrap64 (Int.tdiv a0_0 (impl_reduced.by_ a0_0 a0_1 t3))), .int .i64 (wrap64 (Int.tdiv a0_1 (impl_reduced.by_ a0_0 a0_1 t3))), .int .i64 0, .int .i64 0]) ?_ 2 _ rfl; refine dr ?_; refine blk_put (cs := #[.int .i64 (wrap64 (Int.tdiv a0_0 (impl_reduced.by_ a0_0 a0_1 t3))), .int .i64 0, .int .i64 0, .int .i64 0]) ?_ 1 _ rfl; refine dr ?_; refine blk_put (cs := #[.int .i64 0, .int .i64 0, .int .i64 0, .int .i64 0]) ?_ 0 _ rfl; (with_reducible repeat (first | refine blk_drewN ?_ _ | refine blk_drew ?_ | refine blk_alloc ?_ _)); exact BKr.out) Try.underlying26 rfl (by kernel_rfl)) rfl ?_
   all_goals exact ⟨by first | rfl | (simp <;> rfl), by repeat (first | (with_reducible exact HB.out) | (with_reducible first | apply pw_below_drewN | apply below_alloc | apply below_drew1) | refine below_set ?_ (Aside0.out (by assumption)))⟩
/-! ### impl_areMatrices: function 97 -/
def impl_areMatrices.l0 : Nat → List (S26) → Int → Int → Option (Bool)
 | 0, _, _, _ => none
 | k + 1, x5, x6, x7 => if x7 < x6 then (if 0 ≤ x7 then (if x7 < (x5.length : Int) then ((impl_IsMatrix.f k ((rd_T26 x5 x7).f0.f0) ((rd_T26 x5 x7).f0.f1) ((rd_T26 x5 x7).f1.f0) ((rd_T26 x5 x7).f1.f1)).bind fun t1005 => (if t1005 = true then (impl_areMatrices.l0 k x5 x6 (wrap64 (x7 + 1))) else (some false))) else (none)) else (none)) else (some true)
def impl_areMatrices.f (k : Nat) (l0 : List (S26)) : Option (Bool) := impl_areMatrices.l0 k l0 (l0.length : Int) 0
theorem impl_areMatrices.mono_l : ∀ k, (∀ y0 y1 y2, LeO (impl_areMatrices.l0 k y0 y1 y2) (impl_areMatrices.l0 (k + 1) y0 y1 y2))
 | 0 => fun _ _ _ r h => by simp [impl_areMatrices.l0] at h
 | k + 1 => by
  have ih0 := impl_areMatrices.mono_l k
  ·
   intro y0 y1 y2
   unfold impl_areMatrices.l0
   repeat' first
   | (with_reducible exact ih0 _ _ _)
   | (with_reducible exact impl_IsMatrix.mono _ _ _ _ _)
   | (with_reducible exact LeO.refl _)
   | (with_reducible exact LeO.none _)
   | (with_reducible refine LeO.ite ?_ ?_)
   | (with_reducible refine LeO.bind ?_ (fun _ => ?_))
theorem impl_areMatrices.mono : ∀ a0 k, LeO (impl_areMatrices.f k a0) (impl_areMatrices.f (k + 1) a0) := by
 intro a0 k
 have ih0 := impl_areMatrices.mono_l k
 unfold impl_areMatrices.f
 repeat' first
   | (with_reducible exact ih0 _ _ _)
   | (with_reducible exact impl_IsMatrix.mono _ _ _ _ _)
   | (with_reducible exact LeO.refl _)
   | (with_reducible exact LeO.none _)
   | (with_reducible refine LeO.ite ?_ ?_)
   | (with_reducible refine LeO.bind ?_ (fun _ => ?_))
set_option maxHeartbeats 8000000 in
set_option maxRecDepth 100000 in
theorem impl_areMatrices.calls (k : Nat) (A0 : Option Addr) (c0 : Nat) (l0 : List (S26)) (r : Bool) (w : World) (hr0 : Kd.C k26 w A0 l0.length l0) (hc0 : l0.length ≤ c0) (h : impl_areMatrices.f k l0 = some r) :
  Calls Try.prog 97 #[.slice A0 l0.length c0] w fun e w' => e = .returned (.bool r) ∧ Below w.heap.size w w' := by
 have hu26 := Try.underlying26
 have HR0 := Aside0.mk hr0
 have HC0 := Aside0.mk hc0
 clear hr0 hc0
 have HB := Aside0.mk (Below.refl w.heap.size w)
 have H := h
 unfold impl_areMatrices.f at H
 clear h
 have H' := Aside0.mk H
 clear H
 go_enter Try.func97, Try.ntmps97
 go_wp2
 go_loopg [7] k (fun kq v7 w' => ∃ (x7_1 : Int), v7 = .int .i64 x7_1 ∧ Aside0 (impl_areMatrices.l0 kq l0 (l0.length : Int) x7_1 = some r) ∧ Aside0 (kq ≤ k) ∧ Aside0 (Below w.heap.size w w'))
 case atStart => exact ⟨(0), hB, H', ⟨Nat.le_refl _⟩, ⟨blA⟩⟩
 case round =>
  clear H'
  obtain ⟨x7_1, rfl, HA, HK1, HB⟩ := hrel
  cases gk with
  | zero => exact absurd HA.out (by simp [impl_areMatrices.l0])
  | succ k1 =>
   have H := HA.out
   clear HA
   simp only [impl_areMatrices.l0] at H
   by_cases c2 : x7_1 < (l0.length : Int)
   ·
    rw [if_pos c2] at H
    have c2b0 := decide_eq_true c2
    clear c2
    by_cases c3 : 0 ≤ x7_1
    ·
     rw [if_pos c3] at H
     have c3b0 := decide_eq_true c3
     clear c3
     by_cases c4 : x7_1 < (l0.length : Int)
     ·
      rw [if_pos c4] at H
      have c4b0 := decide_eq_true c4
      clear c4
      replace H := bS H
      obtain ⟨t1005, A5, H⟩ := H
      try dsimp only at H
      by_cases c6 : t1005 = true
      ·
       subst c6
       rw [if_pos rfl] at H
       try dsimp only at H
       have H' := Aside0.mk H
       clear H
       have p1003 : 0 ≤ (x7_1 : Int) := dA
       have q1003 : x7_1 < (l0.length : Int) := dA
       obtain ⟨ad1003, e1003, hx1003_0, hx1003_1, hx1003_2, hx1003_3⟩ := at_T26 HR0.out x7_1 p1003 q1003
       cases e1003
       replace hx1003_0 := (HB.out.cell (World.block_lt_of_cell? w _ hx1003_0)).trans hx1003_0
       replace hx1003_1 := (HB.out.cell (World.block_lt_of_cell? w _ hx1003_1)).trans hx1003_1
       replace hx1003_2 := (HB.out.cell (World.block_lt_of_cell? w _ hx1003_2)).trans hx1003_2
       replace hx1003_3 := (HB.out.cell (World.block_lt_of_cell? w _ hx1003_3)).trans hx1003_3
       replace p1003 := eq_true p1003
       replace q1003 := eq_true q1003
       go_wp2_with (first | ((with_reducible refine gate_dst (N := 4) rfl ?_); refine box_event ?hg (N := 4) ?hd (cs := #[.int .i64 0, .int .i64 0, .int .i64 0, .int .i64 0]) (t := 26) ?hr ?_; (case hd => rfl); (case hg => rfl); (case hr => first | (go_simp; done) | (go_simp; rfl)); intro gb1004 hg w7 hbox hb; have BK1004 := Aside0.mk (hbox); have GW1004 := sA hg; have GE1004 := sA hg; replace HB := lB hb; clear hb hbox hg; obtain ⟨hcz8_0, hcz8_1, hcz8_2, hcz8_3, hfz8_0, hfz8_1, hfz8_2, hfz8_3⟩ := cz4 BK1004) | ((with_reducible refine gate_callee (f := 79) rfl ?_); refine goesL_ (some 12) rfl rfl Try.func79 (by kernel_rfl) rfl #[.agg #[.int .i64 ((rd_T26 l0 x7_1).f0.f0), .int .i64 ((rd_T26 l0 x7_1).f0.f1), .int .i64 ((rd_T26 l0 x7_1).f1.f0), .int .i64 ((rd_T26 l0 x7_1).f1.f1)]] rfl hA ?_; (with_reducible refine (impl_IsMatrix.calls k1 ((rd_T26 l0 x7_1).f0.f0) ((rd_T26 l0 x7_1).f0.f1) ((rd_T26 l0 x7_1).f1.f0) ((rd_T26 l0 x7_1).f1.f1) true _ A5.out).mono ?_); rintro e w9 ⟨rfl, hb⟩; refine ⟨_, rfl, ?_⟩; have n0_ := Aside0.mk (blk_below (g := gb1004) (o := .cells #[.int .i64 ((rd_T26 l0 x7_1).f0.f0), .int .i64 ((rd_T26 l0 x7_1).f0.f1), .int .i64 ((rd_T26 l0 x7_1).f1.f0), .int .i64 ((rd_T26 l0 x7_1).f1.f1)] 26 (0, 0)) (by refine dr ?_; refine blk_put (cs := #[.int .i64 ((rd_T26 l0 x7_1).f0.f0), .int .i64 ((rd_T26 l0 x7_1).f0.f1), .int .i64 ((rd_T26 l0 x7_1).f1.f0), .int .i64 0]) ?_ 3 _ rfl; refine dr ?_; refine blk_put (cs := #[.int .i64 ((rd_T26 l0 x7_1).f0.f0), .int .i64 ((rd_T26 l0 x7_1).f0.f1), .int .i64 0, .int .i64 0]) ?_ 2 _ rfl; refine dr ?_; refine blk_put (cs := #[.int .i64 ((rd_T26 l0 x7_1).f0.f0), .int .i64 0, .int .i64 0, .int .i64 0]) ?_ 1 _ rfl; refine dr ?_; refine blk_put (cs := #[.int .i64 0, .int .i64 0, .int .i64 0, .int .i64 0]) ?_ 0 _ rfl; exact bkA BK1004) hb); have n1_ := lB hb; clear BK1004; clear HB; have BK1004 := n0_; have HB := n1_; clear n0_ n1_; (try clear hb); (try clear hb2); (try clear hk); (try clear hi)))
       go_roundg k1
       case measure => have := HK1.out; omega
       case rel => exact ⟨(wrap64 (x7_1 + 1)), hB, H', ⟨by have := HK1.out; omega⟩, ⟨blA⟩⟩
      ·
       replace c6 := Bool.eq_false_iff.mpr c6
       subst c6
       rw [if_neg (show ¬ (false = true) by decide)] at H
       try dsimp only at H
       obtain rfl := Option.some.inj H
       have p1003 : 0 ≤ (x7_1 : Int) := dA
       have q1003 : x7_1 < (l0.length : Int) := dA
       obtain ⟨ad1003, e1003, hx1003_0, hx1003_1, hx1003_2, hx1003_3⟩ := at_T26 HR0.out x7_1 p1003 q1003
       cases e1003
       replace hx1003_0 := (HB.out.cell (World.block_lt_of_cell? w _ hx1003_0)).trans hx1003_0
       replace hx1003_1 := (HB.out.cell (World.block_lt_of_cell? w _ hx1003_1)).trans hx1003_1
       replace hx1003_2 := (HB.out.cell (World.block_lt_of_cell? w _ hx1003_2)).trans hx1003_2
       replace hx1003_3 := (HB.out.cell (World.block_lt_of_cell? w _ hx1003_3)).trans hx1003_3
       replace p1003 := eq_true p1003
       replace q1003 := eq_true q1003
       go_wp2_with (first | ((with_reducible refine gate_dst (N := 4) rfl ?_); refine box_event ?hg (N := 4) ?hd (cs := #[.int .i64 0, .int .i64 0, .int .i64 0, .int .i64 0]) (t := 26) ?hr ?_; (case hd => rfl); (case hg => rfl); (case hr => first | (go_simp; done) | (go_simp; rfl)); intro gb1004 hg w10 hbox hb; have BK1004 := Aside0.mk (hbox); have GW1004 := sA hg; have GE1004 := sA hg; replace HB := lB hb; clear hb hbox hg; obtain ⟨hcz11_0, hcz11_1, hcz11_2, hcz11_3, hfz11_0, hfz11_1, hfz11_2, hfz11_3⟩ := cz4 BK1004) | ((with_reducible refine gate_callee (f := 79) rfl ?_); refine goesL_ (some 12) rfl rfl Try.func79 (by kernel_rfl) rfl #[.agg #[.int .i64 ((rd_T26 l0 x7_1).f0.f0), .int .i64 ((rd_T26 l0 x7_1).f0.f1), .int .i64 ((rd_T26 l0 x7_1).f1.f0), .int .i64 ((rd_T26 l0 x7_1).f1.f1)]] rfl hA ?_; (with_reducible refine (impl_IsMatrix.calls k1 ((rd_T26 l0 x7_1).f0.f0) ((rd_T26 l0 x7_1).f0.f1) ((rd_T26 l0 x7_1).f1.f0) ((rd_T26 l0 x7_1).f1.f1) false _ A5.out).mono ?_); rintro e w12 ⟨rfl, hb⟩; refine ⟨_, rfl, ?_⟩; have n0_ := Aside0.mk (blk_below (g := gb1004) (o := .cells #[.int .i64 ((rd_T26 l0 x7_1).f0.f0), .int .i64 ((rd_T26 l0 x7_1).f0.f1), .int .i64 ((rd_T26 l0 x7_1).f1.f0), .int .i64 ((rd_T26 l0 x7_1).f1.f1)] 26 (0, 0)) (by refine dr ?_; refine blk_put (cs := #[.int .i64 ((rd_T26 l0 x7_1).f0.f0), .int .i64 ((rd_T26 l0 x7_1).f0.f1), .int .i64 ((rd_T26 l0 x7_1).f1.f0), .int .i64 0]) ?_ 3 _ rfl; refine dr ?_; refine blk_put (cs := #[.int .i64 ((rd_T26 l0 x7_1).f0.f0), .int .i64 ((rd_T26 l0 x7_1).f0.f1), .int .i64 0, .int .i64 0]) ?_ 2 _ rfl; refine dr ?_; refine blk_put (cs := #[.int .i64 ((rd_T26 l0 x7_1).f0.f0), .int .i64 0, .int .i64 0, .int .i64 0]) ?_ 1 _ rfl; refine dr ?_; refine blk_put (cs := #[.int .i64 0, .int .i64 0, .int .i64 0, .int .i64 0]) ?_ 0 _ rfl; exact bkA BK1004) hb); have n1_ := lB hb; clear BK1004; clear HB; have BK1004 := n0_; have HB := n1_; clear n0_ n1_; (try clear hb); (try clear hb2); (try clear hk); (try clear hi)))
       go_ret
       exact finA blA
     ·
      rw [if_neg c4] at H
      exact absurd H (by simp)
    ·
     rw [if_neg c3] at H
     exact absurd H (by simp)
   ·
    rw [if_neg c2] at H
    have c2b0 := decide_eq_false c2
    clear c2
    obtain rfl := Option.some.inj H
    go_wp2
    go_ret
    exact finA blA
end Go.Proofs.Ytccpccnnbacgjaa.PAll
