-- turned for this claim out of the kit's print: the same functions, packed anew
import Derived.Test.YtccpccnnbacgjaaQx
import Derived.Test.YtccpccnnbacgjaaQLtoBall
import Derived.Test.YtccpccnnbacgjaaQimplnearCode
import Derived.Test.YtccpccnnbacgjaaQspecl01Child
import Derived.Test.YtccpccnnbacgjaaQspecl02Join
namespace Go.Proofs.Ytccpccnnbacgjaa.PAll
open Go.RowKit Go.Proofs.YtccpccnnbacgjaaW.PrintWords Go.Proofs.YtccpccnnbacgjaaW.PrintLast Go.Proofs.YtccpccnnbacgjaaW.PrintMore
attribute [local go_sem] Go.Proofs.Ytccpccnnbacgjaa.Aux.setCell_drewN Go.Proofs.Ytccpccnnbacgjaa.Aux.isSome_setCell max2_int min2_int max_two min_two max_three min_three max_four min_four   -- for this text's walks alone
set_option linter.unusedVariables false
set_option linter.unusedSimpArgs false
/-! ### spec_l04Code: function 70 -/
def spec_l04Code.f (k : Nat) (a0 : Int) (a1_0 : Int) (a1_1 : Int) (a1_2 : Int) (a1_3 : Int) (l2 : List (S39)) : Option (Int) := (spec_l01Code.f k a0 l2).bind fun t112 => (if t112 = 0 then ((spec_l04Is.f a1_0 a1_1 a1_2 a1_3).bind fun t113 => (if t113 = true then (some 0) else (some 1))) else (some 1))
theorem spec_l04Code.mono : ∀ a0 a1 a2 a3 a4 a5 k, LeO (spec_l04Code.f k a0 a1 a2 a3 a4 a5) (spec_l04Code.f (k + 1) a0 a1 a2 a3 a4 a5) := by
 intro a0 a1 a2 a3 a4 a5 k
 unfold spec_l04Code.f
 repeat' first
   | (with_reducible exact spec_l01Code.mono _ _ _)
   | (with_reducible exact LeO.refl _)
   | (with_reducible exact LeO.none _)
   | (with_reducible refine LeO.ite ?_ ?_)
   | (with_reducible refine LeO.bind ?_ (fun _ => ?_))
set_option maxHeartbeats 8000000 in
set_option maxRecDepth 100000 in
theorem spec_l04Code.calls (k : Nat) (a0 : Int) (a1_0 : Int) (a1_1 : Int) (a1_2 : Int) (a1_3 : Int) (A2 : Option Addr) (c2 : Nat) (l2 : List (S39)) (r : Int) (w : World) (hr2 : Kd.C k39 w A2 l2.length l2) (hc2 : l2.length ≤ c2) (h : spec_l04Code.f k a0 a1_0 a1_1 a1_2 a1_3 l2 = some r) :
  Calls Try.prog 70 #[.int .i64 a0, .agg #[.int .i64 a1_0, .int .i64 a1_1, .int .i64 a1_2, .int .i64 a1_3], .slice A2 l2.length c2] w fun e w' => e = .returned (.int .i64 r) ∧ Below w.heap.size w w' := by
 have hu26 := Try.underlying26
 have HR2 := Aside0.mk hr2
 have HC2 := Aside0.mk hc2
 clear hr2 hc2
 have HB := Aside0.mk (Below.refl w.heap.size w)
 have H := h
 unfold spec_l04Code.f at H
 clear h
 replace H := bS H
 obtain ⟨t112, A4, H⟩ := H
 try dsimp only at H
 by_cases c5 : t112 = 0
 ·
  rw [if_pos c5] at H
  have c5b0 : (t112 == 0) = true := beq_iff_eq.mpr c5
  have c5b1 : (t112 != 0) = false := bne_eq_false_iff_eq.mpr c5
  clear c5
  replace H := bS H
  obtain ⟨t113, A6, H⟩ := H
  try dsimp only at H
  by_cases c7 : t113 = true
  ·
   subst c7
   rw [if_pos rfl] at H
   try dsimp only at H
   obtain rfl := Option.some.inj H
   go_enter Try.func70, Try.ntmps70
   go_wp2_with (first | ((with_reducible refine gate_dst (N := 4) rfl ?_); refine box_event ?hg (N := 4) ?hd (cs := #[.int .i64 a1_0, .int .i64 a1_1, .int .i64 a1_2, .int .i64 a1_3]) (t := 26) ?hr ?_; (case hd => rfl); (case hg => rfl); (case hr => first | (go_simp; done) | (go_simp; rfl)); intro gb111 hg w8 hbox hb; have BK111 := Aside0.mk (hbox); have GW111 := sA hg; have GE111 := sA hg; replace HB := lB hb; clear hb hbox hg) | ((with_reducible refine gate_callee (f := 100) rfl ?_); refine goesL_ (some 9) rfl rfl Try.func100 (by kernel_rfl) rfl #[.int .i64 a0, .slice A2 l2.length c2] rfl hA ?_; (with_reducible refine (spec_l01Code.calls k a0 _ _ l2 t112 _ ?side1 ?side2 A4.out).mono ?_); (case side1 => repeat (first | exact (Kd.C_below HR2.out HB.out) | (with_reducible refine Kd.C_alloc ?_ _) | (with_reducible refine Kd.C_drewN ?_ _) | (with_reducible refine Kd.C_drew ?_))); (case side2 => exact HC2.out); rintro e w9 ⟨rfl, hb⟩; refine ⟨_, rfl, ?_⟩; replace BK111 := kB BK111 hb; replace HB := lB hb; (try clear hb); (try clear hb2); (try clear hk); (try clear hi); have hcz10_0 : w9.cell? ⟨gb111, 0, none⟩ = some (.int .i64 a1_0) := cA BK111 0; have hcz10_1 : w9.cell? ⟨gb111, 1, none⟩ = some (.int .i64 a1_1) := cA BK111 1; have hcz10_2 : w9.cell? ⟨gb111, 2, none⟩ = some (.int .i64 a1_2) := cA BK111 2; have hcz10_3 : w9.cell? ⟨gb111, 3, none⟩ = some (.int .i64 a1_3) := cA BK111 3; have hfz10_0 := blk_frozen BK111.out 0; have hfz10_1 := blk_frozen BK111.out 1; have hfz10_2 := blk_frozen BK111.out 2; have hfz10_3 := blk_frozen BK111.out 3) | (go_at_call 87; (with_reducible refine (spec_l04Is.calls a1_0 a1_1 a1_2 a1_3 true _ A6.out).mono ?_); rintro e w11 ⟨rfl, hb⟩; replace BK111 := kB BK111 hb; replace HB := lB hb; (try clear hb); (try clear hb2); (try clear hk); (try clear hi)))
   go_ret
   exact finA blA
  ·
   replace c7 := Bool.eq_false_iff.mpr c7
   subst c7
   rw [if_neg (show ¬ (false = true) by decide)] at H
   try dsimp only at H
   obtain rfl := Option.some.inj H
   go_enter Try.func70, Try.ntmps70
   go_wp2_with (first | ((with_reducible refine gate_dst (N := 4) rfl ?_); refine box_event ?hg (N := 4) ?hd (cs := #[.int .i64 a1_0, .int .i64 a1_1, .int .i64 a1_2, .int .i64 a1_3]) (t := 26) ?hr ?_; (case hd => rfl); (case hg => rfl); (case hr => first | (go_simp; done) | (go_simp; rfl)); intro gb111 hg w12 hbox hb; have BK111 := Aside0.mk (hbox); have GW111 := sA hg; have GE111 := sA hg; replace HB := lB hb; clear hb hbox hg) | ((with_reducible refine gate_callee (f := 100) rfl ?_); refine goesL_ (some 9) rfl rfl Try.func100 (by kernel_rfl) rfl #[.int .i64 a0, .slice A2 l2.length c2] rfl hA ?_; (with_reducible refine (spec_l01Code.calls k a0 _ _ l2 t112 _ ?side1 ?side2 A4.out).mono ?_); (case side1 => repeat (first | exact (Kd.C_below HR2.out HB.out) | (with_reducible refine Kd.C_alloc ?_ _) | (with_reducible refine Kd.C_drewN ?_ _) | (with_reducible refine Kd.C_drew ?_))); (case side2 => exact HC2.out); rintro e w13 ⟨rfl, hb⟩; refine ⟨_, rfl, ?_⟩; replace BK111 := kB BK111 hb; replace HB := lB hb; (try clear hb); (try clear hb2); (try clear hk); (try clear hi); have hcz14_0 : w13.cell? ⟨gb111, 0, none⟩ = some (.int .i64 a1_0) := cA BK111 0; have hcz14_1 : w13.cell? ⟨gb111, 1, none⟩ = some (.int .i64 a1_1) := cA BK111 1; have hcz14_2 : w13.cell? ⟨gb111, 2, none⟩ = some (.int .i64 a1_2) := cA BK111 2; have hcz14_3 : w13.cell? ⟨gb111, 3, none⟩ = some (.int .i64 a1_3) := cA BK111 3; have hfz14_0 := blk_frozen BK111.out 0; have hfz14_1 := blk_frozen BK111.out 1; have hfz14_2 := blk_frozen BK111.out 2; have hfz14_3 := blk_frozen BK111.out 3) | (go_at_call 87; (with_reducible refine (spec_l04Is.calls a1_0 a1_1 a1_2 a1_3 false _ A6.out).mono ?_); rintro e w15 ⟨rfl, hb⟩; replace BK111 := kB BK111 hb; replace HB := lB hb; (try clear hb); (try clear hb2); (try clear hk); (try clear hi)))
   go_ret
   exact finA blA
 ·
  rw [if_neg c5] at H
  have c5b0 : (t112 == 0) = false := beq_eq_false_iff_ne.mpr c5
  have c5b1 : (t112 != 0) = true := bne_iff_ne.mpr c5
  obtain rfl := Option.some.inj H
  go_enter Try.func70, Try.ntmps70
  go_wp2_with (first | ((with_reducible refine gate_dst (N := 4) rfl ?_); refine box_event ?hg (N := 4) ?hd (cs := #[.int .i64 a1_0, .int .i64 a1_1, .int .i64 a1_2, .int .i64 a1_3]) (t := 26) ?hr ?_; (case hd => rfl); (case hg => rfl); (case hr => first | (go_simp; done) | (go_simp; rfl)); intro gb111 hg w16 hbox hb; have BK111 := Aside0.mk (hbox); have GW111 := sA hg; have GE111 := sA hg; replace HB := lB hb; clear hb hbox hg) | ((with_reducible refine gate_callee (f := 100) rfl ?_); refine goesL_ (some 9) rfl rfl Try.func100 (by kernel_rfl) rfl #[.int .i64 a0, .slice A2 l2.length c2] rfl hA ?_; (with_reducible refine (spec_l01Code.calls k a0 _ _ l2 t112 _ ?side1 ?side2 A4.out).mono ?_); (case side1 => repeat (first | exact (Kd.C_below HR2.out HB.out) | (with_reducible refine Kd.C_alloc ?_ _) | (with_reducible refine Kd.C_drewN ?_ _) | (with_reducible refine Kd.C_drew ?_))); (case side2 => exact HC2.out); rintro e w17 ⟨rfl, hb⟩; refine ⟨_, rfl, ?_⟩; replace BK111 := kB BK111 hb; replace HB := lB hb; (try clear hb); (try clear hb2); (try clear hk); (try clear hi)))
  go_ret
  exact finA blA
/-! ### spec_l02Distance: function 102 -/
def spec_l02Distance.f (k : Nat) (a0 : Int) (a1_0 : Int) (a1_1 : Int) (a1_2 : Int) (a2_0 : Int) (a2_1 : Int) (a2_2 : Int) : Option (Int) := (spec_l02Join.f k a0 a1_0 a1_1 a1_2 a2_0 a2_1 a2_2).bind fun t128 => (some (wrap64 ((wrap64 (a1_0 + a2_0)) - (wrap64 (2 * t128)))))
theorem spec_l02Distance.mono : ∀ a0 a1 a2 a3 a4 a5 a6 k, LeO (spec_l02Distance.f k a0 a1 a2 a3 a4 a5 a6) (spec_l02Distance.f (k + 1) a0 a1 a2 a3 a4 a5 a6) := by
 intro a0 a1 a2 a3 a4 a5 a6 k
 unfold spec_l02Distance.f
 repeat' first
   | (with_reducible exact spec_l02Join.mono _ _ _ _ _ _ _ _)
   | (with_reducible exact LeO.refl _)
   | (with_reducible exact LeO.none _)
   | (with_reducible refine LeO.ite ?_ ?_)
   | (with_reducible refine LeO.bind ?_ (fun _ => ?_))
def spec_l02Distance.T1 : Bool × List (List Nat × List Nat) := (true, [([], []), ([0], [0]), ([], []), ([2], [2]), ([1, 3], [1, 3]), ([], []), ([], []), ([], []), ([5, 6, 7], [5, 6, 7]), ([8], [8]), ([4, 9], [4, 9]), ([10, 8, 0, 1, 2, 3, 4, 5, 6, 7, 8, 9, 10], [10])])
def spec_l02Distance.B1 : List Nat := [0, 1, 0, 4, 15, 0, 0, 0, 224, 480, 1023, 2047]
theorem spec_l02Distance.tab1 : rtab .any (opsOf Try.f102 1) = spec_l02Distance.T1 := by kernel_rfl
theorem spec_l02Distance.bits1 : waitsOk spec_l02Distance.T1.2 spec_l02Distance.B1 = true := by kernel_rfl
set_option maxHeartbeats 8000000 in
set_option maxRecDepth 100000 in
theorem spec_l02Distance.calls (k : Nat) (a0 : Int) (a1_0 : Int) (a1_1 : Int) (a1_2 : Int) (a2_0 : Int) (a2_1 : Int) (a2_2 : Int) (r : Int) (w : World) (h : spec_l02Distance.f k a0 a1_0 a1_1 a1_2 a2_0 a2_1 a2_2 = some r) :
  Calls Try.prog 102 #[.int .i64 a0, .agg #[.int .i64 a1_0, .int .i64 a1_1, .int .i64 a1_2], .agg #[.int .i64 a2_0, .int .i64 a2_1, .int .i64 a2_2]] w fun e w' => e = .returned (.int .i64 r) ∧ Below w.heap.size w w' := by
 have hu39 := Try.underlying39
 have HB := Aside0.mk (Below.refl w.heap.size w)
 have H := h
 unfold spec_l02Distance.f at H
 clear h
 replace H := bS H
 obtain ⟨t128, A4, H⟩ := H
 try dsimp only at H
 obtain rfl := Option.some.inj H
 go_enter Try.func102, Try.ntmps102
 try go_wp2_with (first | ((with_reducible refine gate_dst (N := 4) rfl ?_); refine box_event ?hg (N := 4) ?hd (cs := #[.int .i64 a1_0, .int .i64 a1_1, .int .i64 a1_2]) (t := 39) ?hr ?_; (case hd => rfl); (case hg => rfl); (case hr => first | (go_simp; done) | (go_simp; rfl)); intro gb126 hg w5 hbox hb; have n0_ := lB hb; have n1_ := Aside0.mk (hbox); have n2_ := sA hg; have n3_ := sA hg; clear HB; have HB := n0_; have BK126 := n1_; have GW126 := n2_; have GE126 := n3_; clear n0_ n1_ n2_ n3_; clear hb hbox hg) | ((with_reducible refine gate_dst (N := 5) rfl ?_); refine box_event ?hg (N := 5) ?hd (cs := #[.int .i64 a2_0, .int .i64 a2_1, .int .i64 a2_2]) (t := 39) ?hr ?_; (case hd => rfl); (case hg => rfl); (case hr => first | (go_simp; done) | (go_simp; rfl)); intro gb127 hg w6 hbox hb; have n0_ := kB BK126 hb; have n1_ := lB hb; have n2_ := Aside0.mk (hbox); have n3_ := sA hg; have n4_ := sA hg; have n5_ := nA hg BK126; have n6_ := nB hg BK126; clear BK126; clear HB; have BK126 := n0_; have HB := n1_; have BK127 := n2_; have GW127 := n3_; have GE127 := n4_; have NB126_127 := n5_; have NB127_126 := n6_; clear n0_ n1_ n2_ n3_ n4_ n5_ n6_; clear hb hbox hg))
 have n0_ := Aside0.mk (blk_drew BK126.out)
 have n1_ := Aside0.mk (blk_drew BK127.out)
 have n2_ := Aside0.mk (below_drew1 HB.out)
 clear BK126
 clear BK127
 clear HB
 have BK126 := n0_
 have BK127 := n1_
 have HB := n2_
 clear n0_ n1_ n2_
 refine start_ (n := 12) (S := fun w' => w'.cell? ⟨gb126, 0, none⟩ = some (.int .i64 a1_0) ∧ w'.cell? ⟨gb126, 1, none⟩ = some (.int .i64 a1_1) ∧ w'.cell? ⟨gb126, 2, none⟩ = some (.int .i64 a1_2) ∧ w'.cell? ⟨gb127, 0, none⟩ = some (.int .i64 a2_0) ∧ w'.cell? ⟨gb127, 1, none⟩ = some (.int .i64 a2_1) ∧ w'.cell? ⟨gb127, 2, none⟩ = some (.int .i64 a2_2)) (ds := []) #[Z, Z, Z, Z, Z, Z, Z, Z, Z, Z, Z, Z] (by kernel_rfl) rfl rfl ⟨cA BK126 0, cA BK126 1, cA BK126 2, cA BK127 0, cA BK127 1, cA BK127 2⟩ (fun hHeld => ?_); refine with_tabW spec_l02Distance.tab1 spec_l02Distance.bits1 (fun HT_ HW_ => ?_)
 generalize w6.drew = w7 at BK126 BK127 HB hHeld ⊢
 refine pure_ (i := 0) (N := some 7) (v := ?_) (a' := ?_) #[Y, Z, Z, Z, Z, Z, Z, Z, Z, Z, Z, Z] rfl rfl (any_of HT_.out (by kernel_rfl)) (fun _ _ _ h => h) (Or.inl ⟨by rfl, ?_⟩) ?_ ?_
 rotate_left
 ·
  intro w'
  go_simp
  with_reducible rfl
 rotate_left
 ·
  simp only [pA]
  rfl
 refine pure_ (i := 2) (N := some 9) (v := ?_) (a' := ?_) #[Y, Z, Y, Z, Z, Z, Z, Z, Z, Z, Z, Z] rfl rfl (any_of HT_.out (by kernel_rfl)) (fun _ _ _ h => h) (Or.inl ⟨by rfl, ?_⟩) ?_ ?_
 rotate_left
 ·
  intro w'
  go_simp
  with_reducible rfl
 rotate_left
 ·
  simp only [pA]
  rfl
 refine pure_ (i := 5) (N := some 12) (v := ?_) (a' := ?_) #[Y, Z, Y, Z, Z, Y, Z, Z, Z, Z, Z, Z] rfl rfl (any_of HT_.out (by kernel_rfl)) (fun _ _ _ h => h) (Or.inl ⟨by rfl, ?_⟩) ?_ ?_
 rotate_left
 ·
  intro w'
  go_simp
  with_reducible rfl
 rotate_left
 ·
  simp only [pA]
  rfl
 refine take_ (i := 1) (N := some 8) (v := ?_) (a' := ?_) #[Y, Y, Y, Z, Z, Y, Z, Z, Z, Z, Z, Z] rfl rfl (take_ofW HT_.out HW_.out (by kernel_rfl)) (fun _ _ _ h => h) (Or.inl ⟨by rfl, ?_⟩) hHeld ?_ ?_
 rotate_left
 ·
  rintro w' ⟨s0, s1, s2, s3, s4, s5⟩
  go_simp
  with_reducible rfl
 rotate_left
 ·
  simp only [pA]
  rfl
 refine take_ (i := 3) (N := some 10) (v := ?_) (a' := ?_) #[Y, Y, Y, Y, Z, Y, Z, Z, Z, Z, Z, Z] rfl rfl (take_ofW HT_.out HW_.out (by kernel_rfl)) (fun _ _ _ h => h) (Or.inl ⟨by rfl, ?_⟩) hHeld ?_ ?_
 rotate_left
 ·
  rintro w' ⟨s0, s1, s2, s3, s4, s5⟩
  go_simp
  with_reducible rfl
 rotate_left
 ·
  simp only [pA]
  rfl
 refine pure_ (i := 4) (N := some 11) (v := ?_) (a' := ?_) #[Y, Y, Y, Y, Y, Y, Z, Z, Z, Z, Z, Z] rfl rfl (any_of HT_.out (by kernel_rfl)) (fun _ _ _ h => h) (Or.inl ⟨by rfl, ?_⟩) ?_ ?_
 rotate_left
 ·
  intro w'
  go_simp
  with_reducible rfl
 rotate_left
 ·
  simp only [pA]
  rfl
 refine take_ (i := 6) (N := some 13) (v := ?_) (a' := ?_) #[Y, Y, Y, Y, Y, Y, Y, Z, Z, Z, Z, Z] rfl rfl (take_ofW HT_.out HW_.out (by kernel_rfl)) (fun _ _ _ h => h) (Or.inl ⟨by rfl, ?_⟩) hHeld ?_ ?_
 rotate_left
 ·
  rintro w' ⟨s0, s1, s2, s3, s4, s5⟩
  go_simp
  with_reducible rfl
 rotate_left
 ·
  simp only [pA]
  rfl
 refine take_ (i := 7) (N := some 14) (v := ?_) (a' := ?_) #[Y, Y, Y, Y, Y, Y, Y, Y, Z, Z, Z, Z] rfl rfl (take_ofW HT_.out HW_.out (by kernel_rfl)) (fun _ _ _ h => h) (Or.inl ⟨by rfl, ?_⟩) hHeld ?_ ?_
 rotate_left
 ·
  rintro w' ⟨s0, s1, s2, s3, s4, s5⟩
  go_simp
  with_reducible rfl
 rotate_left
 ·
  simp only [pA]
  rfl
 refine one_ (i := 8) (N := some 15) #[Y, Y, Y, Y, Y, Y, Y, Y, Y, Z, Z, Z] rfl rfl (one_of HT_.out (by kernel_rfl)) (by decide) (fun K hK => ?_)
 refine goes_ Try.func139 (by kernel_rfl) rfl #[.int .i64 a0, .agg #[.int .i64 a1_0, .int .i64 a1_1, .int .i64 a1_2], .agg #[.int .i64 a2_0, .int .i64 a2_1, .int .i64 a2_2]] (by rfl) rfl rfl hA ?_
 with_reducible refine (spec_l02Join.calls k a0 a1_0 a1_1 a1_2 a2_0 a2_1 a2_2 t128 _ A4.out).mono ?_
 rintro e w8 ⟨rfl, hb⟩
 refine ⟨_, rfl, ?_⟩
 replace BK126 := kB BK126 hb
 replace BK127 := kB BK127 hb
 replace HB := lB hb
 (try clear hb)
 (try clear hb2)
 (try clear hk)
 (try clear hi)
 refine hK.out _ _ ⟨cA BK126 0, cA BK126 1, cA BK126 2, cA BK127 0, cA BK127 1, cA BK127 2⟩ (fun hHeld => ?_)
 clear hK K
 refine norm_ (a' := ?_) ?_ ?_
 rotate_left
 ·
  show Act.put _ (some 15) _ = _
  simp only [pA]
  rfl
 refine pure_ (i := 9) (N := some 16) (v := ?_) (a' := ?_) #[Y, Y, Y, Y, Y, Y, Y, Y, Y, Y, Z, Z] rfl rfl (any_of HT_.out (by kernel_rfl)) (fun _ _ _ h => h) (Or.inl ⟨by rfl, ?_⟩) ?_ ?_
 rotate_left
 ·
  intro w'
  go_simp
  with_reducible rfl
 rotate_left
 ·
  simp only [pA]
  rfl
 refine pure_ (i := 10) (N := some 17) (v := ?_) (a' := ?_) #[Y, Y, Y, Y, Y, Y, Y, Y, Y, Y, Y, Z] rfl rfl (any_of HT_.out (by kernel_rfl)) (fun _ _ _ h => h) (Or.inl ⟨by rfl, ?_⟩) ?_ ?_
 rotate_left
 ·
  intro w'
  go_simp
  with_reducible rfl
 rotate_left
 ·
  simp only [pA]
  rfl
 refine pure_ (i := 11) (N := some 6) (v := ?_) (a' := ?_) #[Y, Y, Y, Y, Y, Y, Y, Y, Y, Y, Y, Y] rfl rfl (any_of HT_.out (by kernel_rfl)) (fun _ _ _ h => h) (Or.inl ⟨by rfl, ?_⟩) ?_ ?_
 rotate_left
 ·
  intro w'
  go_simp
  with_reducible rfl
 rotate_left
 ·
  simp only [pA]
  rfl
 refine done_ (done_of HT_.out (by kernel_rfl)) ?_
 try go_wp2
 go_ret
 exact finA blA
/-! ### spec_l02Children: function 145 -/
def spec_l02Children.l0 : Nat → Int → List (S39) → Int → Int → Int → Int → Option ((List (S39)) × Bool)
 | 0, _, _, _, _, _, _ => none
 | k + 1, x0, x6, x7, x166000, x166001, x166002 => if x7 < x0 then ((spec_l01Child.f k x0 x166000 x166001 x166002 x7).bind fun bt169 => (if bt169.2.2.2 = true then (if x6.length < 5864062014805 then (spec_l02Children.l0 k x0 (x6 ++ [(⟨bt169.1, bt169.2.1, bt169.2.2.1⟩ : S39)]) (wrap64 (x7 + 1)) x166000 x166001 x166002) else (none)) else (some (([] : List (S39)), false)))) else (some (x6, true))
def spec_l02Children.f (k : Nat) (a0 : Int) (a1_0 : Int) (a1_1 : Int) (a1_2 : Int) : Option ((List (S39)) × Bool) := spec_l02Children.l0 k a0 (([] : List (S39))) 0 a1_0 a1_1 a1_2
theorem spec_l02Children.mono_l : ∀ k, (∀ y0 y1 y2 y3 y4 y5, LeO (spec_l02Children.l0 k y0 y1 y2 y3 y4 y5) (spec_l02Children.l0 (k + 1) y0 y1 y2 y3 y4 y5))
 | 0 => fun _ _ _ _ _ _ r h => by simp [spec_l02Children.l0] at h
 | k + 1 => by
  have ih0 := spec_l02Children.mono_l k
  ·
   intro y0 y1 y2 y3 y4 y5
   unfold spec_l02Children.l0
   repeat' first
   | (with_reducible exact ih0 _ _ _ _ _ _)
   | (with_reducible exact spec_l01Child.mono _ _ _ _ _ _)
   | (with_reducible exact LeO.refl _)
   | (with_reducible exact LeO.none _)
   | (with_reducible refine LeO.ite ?_ ?_)
   | (with_reducible refine LeO.bind ?_ (fun _ => ?_))
theorem spec_l02Children.mono : ∀ a0 a1 a2 a3 k, LeO (spec_l02Children.f k a0 a1 a2 a3) (spec_l02Children.f (k + 1) a0 a1 a2 a3) := by
 intro a0 a1 a2 a3 k
 have ih0 := spec_l02Children.mono_l k
 unfold spec_l02Children.f
 repeat' first
   | (with_reducible exact ih0 _ _ _ _ _ _)
   | (with_reducible exact spec_l01Child.mono _ _ _ _ _ _)
   | (with_reducible exact LeO.refl _)
   | (with_reducible exact LeO.none _)
   | (with_reducible refine LeO.ite ?_ ?_)
   | (with_reducible refine LeO.bind ?_ (fun _ => ?_))
set_option maxHeartbeats 8000000 in
set_option maxRecDepth 100000 in
theorem spec_l02Children.calls (k : Nat) (a0 : Int) (a1_0 : Int) (a1_1 : Int) (a1_2 : Int) (r1 : List (S39)) (r2 : Bool) (w : World) (h : spec_l02Children.f k a0 a1_0 a1_1 a1_2 = some (r1, r2)) :
  Calls Try.prog 145 #[.int .i64 a0, .agg #[.int .i64 a1_0, .int .i64 a1_1, .int .i64 a1_2]] w fun e w' => ∃ v0_ : Value, e = .returned (.tuple #[v0_, .bool r2]) ∧ Kd.R k39 39 w' w.heap.size (fun _ => True) v0_ r1 ∧ Below w.heap.size w w' := by
 have hu39 := Try.underlying39
 have HB := Aside0.mk (Below.refl w.heap.size w)
 have H := h
 unfold spec_l02Children.f at H
 clear h
 obtain ⟨y166, hy166⟩ : ∃ y_ : List (S39), y_ = (([] : List (S39))) := ⟨_, rfl⟩
 replace H : (spec_l02Children.l0 k a0 y166 0 a1_0 a1_1 a1_2) = some (r1, r2) := by first | (rw [hy166]; with_reducible exact H) | (have H2_ := (Option.bind_some _ _).symm.trans H; rw [hy166]; with_reducible exact H2_) | (have H2_ := (Option.bind_some _ _).symm.trans H; with_reducible exact H2_) | with_reducible exact H | (rw [hy166]; exact H) | exact H
 have Ny166 := Aside0.mk hy166
 clear hy166
 have H' := Aside0.mk H
 clear H
 go_enter Try.func145, Try.ntmps145
 go_wp2_with (first | ((with_reducible refine gate_dst (N := 3) rfl ?_); refine box_event ?hg (N := 3) ?hd (cs := #[.int .i64 a1_0, .int .i64 a1_1, .int .i64 a1_2]) (t := 39) ?hr ?_; (case hd => rfl); (case hg => rfl); (case hr => first | (go_simp; done) | (go_simp; rfl)); intro gb165 hg w3 hbox hb; have BK165 := Aside0.mk (hbox); have GW165 := sA hg; have GE165 := sA hg; replace HB := lB hb; clear hb hbox hg) | ((with_reducible refine gate_dst (N := 10) rfl ?_); refine Kd.R_lit k39 _ 39 ?hg (N := 10) ?hd (xs := ([] : List (S39))) (inner := []) (ok := fun _ => True) (okp := fun _ => True) ?hr ?hp (fun _ hk => hk) trivial (Below.refl _ _) (Nat.le_refl _) (by simp) ?_; (case hd => rfl); (case hg => rfl); (case hr => first | (go_simp; done) | (go_simp; rfl)); (case hp => exact (Reps.none _ _)); intro v167 w4 ho5 hb hg_ hnew_; clear hg_ hnew_; (first | rw [← Ny166.out] at ho5 | (simp only [Int.reduceToNat] at ho5; rw [← Ny166.out] at ho5)); have HO168 := Aside0.mk (Kd.R_lower (Kd.R_newB ho5 (bkA BK165)) (below_size blA)); replace BK165 := kB BK165 hb; replace HB := lB hb; clear hb ho5))
 go_loopg [6, 7] k (fun kq v6 v7 w' => ∃ (x6_1 : List (S39)) (x7_1 : Int), v7 = .int .i64 x7_1 ∧ Aside0 (spec_l02Children.l0 kq a0 x6_1 x7_1 a1_0 a1_1 a1_2 = some (r1, r2)) ∧ Aside0 (kq ≤ k) ∧ Aside0 (Kd.R k39 39 w' w.heap.size (fun k_ => k_ ≠ gb165) v6 x6_1) ∧ Aside0 (w'.heap[gb165]? = some (.cells #[.int .i64 a1_0, .int .i64 a1_1, .int .i64 a1_2] 39 (0, 0))) ∧ Aside0 (Below w.heap.size w w'))
 case atStart => exact ⟨(y166), (0), hB, H', ⟨Nat.le_refl _⟩, ⟨by (with_reducible repeat (first | apply Kd.R_alloc | apply Kd.R_drewN | apply Kd.R_drew)); exact Kd.R_mono HO168.out (fun _ hk => hk.2)⟩, ⟨bkA BK165⟩, ⟨blA⟩⟩
 case round =>
  clear H'
  obtain ⟨x6_1, x7_1, rfl, HA, HK1, HO_6, BK165, HB⟩ := hrel
  cases gk with
  | zero => exact absurd HA.out (by simp [spec_l02Children.l0])
  | succ k1 =>
   have H := HA.out
   clear HA
   simp only [spec_l02Children.l0] at H
   by_cases c6 : x7_1 < a0
   ·
    rw [if_pos c6] at H
    have c6b0 := decide_eq_true c6
    clear c6
    replace H := bS H
    obtain ⟨⟨t169, t170, t171, t172⟩, A7, H⟩ := H
    try dsimp only at H
    by_cases c8 : t172 = true
    ·
     subst c8
     rw [if_pos rfl] at H
     try dsimp only at H
     by_cases c9 : x6_1.length < 5864062014805
     ·
      rw [if_pos c9] at H
      have LMc9 := Aside0.mk c9
      clear c9
      obtain ⟨y174, hy174⟩ : ∃ y_ : List (S39), y_ = (x6_1 ++ [(⟨t169, t170, t171⟩ : S39)]) := ⟨_, rfl⟩
      replace H : (spec_l02Children.l0 k1 a0 y174 (wrap64 (x7_1 + 1)) a1_0 a1_1 a1_2) = some (r1, r2) := by first | (rw [hy174]; with_reducible exact H) | (have H2_ := (Option.bind_some _ _).symm.trans H; rw [hy174]; with_reducible exact H2_) | (have H2_ := (Option.bind_some _ _).symm.trans H; with_reducible exact H2_) | with_reducible exact H | (rw [hy174]; exact H) | exact H
      have Ny174 := Aside0.mk hy174
      clear hy174
      have H' := Aside0.mk H
      clear H
      have hcz10_0 : wr.cell? ⟨gb165, 0, none⟩ = some (.int .i64 a1_0) := cA BK165 0
      have hcz10_1 : wr.cell? ⟨gb165, 1, none⟩ = some (.int .i64 a1_1) := cA BK165 1
      have hcz10_2 : wr.cell? ⟨gb165, 2, none⟩ = some (.int .i64 a1_2) := cA BK165 2
      have hfz10_0 := blk_frozen BK165.out 0
      have hfz10_1 := blk_frozen BK165.out 1
      have hfz10_2 := blk_frozen BK165.out 2
      go_wp2_with (first | ((with_reducible refine gate_callee (f := 158) rfl ?_); refine goesL_ (some 20) rfl rfl Try.func158 (by kernel_rfl) rfl #[.int .i64 a0, .agg #[.int .i64 a1_0, .int .i64 a1_1, .int .i64 a1_2], .int .i64 x7_1] rfl hA ?_; (with_reducible refine (spec_l01Child.calls k1 a0 a1_0 a1_1 a1_2 x7_1 t169 t170 t171 true _ A7.out).mono ?_); rintro e w11 ⟨rfl, hb⟩; refine ⟨_, rfl, ?_⟩; replace HO_6 := Aside0.mk (Kd.R_below (rA HO_6) hb); replace BK165 := kB BK165 hb; replace HB := lB hb; (try clear hb); (try clear hb2); (try clear hk); (try clear hi)) | ((with_reducible refine gate_dst (N := 8) rfl ?_); refine box_event ?hg (N := 8) ?hd (cs := #[.int .i64 0, .int .i64 0, .int .i64 0]) (t := 39) ?hr ?_; (case hd => rfl); (case hg => rfl); (case hr => first | (go_simp; done) | (go_simp; rfl)); intro gb173 hg w12 hbox hb; have BK173 := Aside0.mk (hbox); have GW173 := sA hg; have GE173 := sA hg; have NB165_173 := nA hg BK165; have NB173_165 := nB hg BK165; replace HO_6 := Aside0.mk (Kd.R_below (Kd.R_elderB (rA HO_6) gb173 (Nat.le_of_eq hg.symm)) hb); replace BK165 := kB BK165 hb; replace HB := lB hb; clear hb hbox hg; have hnb13 := NB173_165.out; have hnc13 := NB165_173.out; have hcz14_0 : w12.cell? ⟨gb173, 0, none⟩ = some (.int .i64 0) := cA BK173 0; have hcz14_1 : w12.cell? ⟨gb173, 1, none⟩ = some (.int .i64 0) := cA BK173 1; have hcz14_2 : w12.cell? ⟨gb173, 2, none⟩ = some (.int .i64 0) := cA BK173 2; have hfz14_0 := blk_frozen BK173.out 0; have hfz14_1 := blk_frozen BK173.out 1; have hfz14_2 := blk_frozen BK173.out 2) | ((with_reducible refine gate_builtin (b := .append) (xs := #[.tmp 25, .tmp 27]) rfl ?_); at_builtin; refine Kd.R_append k39 (w0 := w) w.heap.size rfl (.tmp 25) (.tmp 27) 36 39 (.agg #[(.int .i64 0), (.int .i64 0), (.int .i64 0)]) 24 rfl Try.underlying36 info39 rfl (by decide) (by omega) u6 x6_1 (⟨t169, t170, t171⟩ : S39) [.int .i64 t169, .int .i64 t170, .int .i64 t171] (fun k_ => k_ ≠ gb165 ∧ k_ ≠ gb173) (fun _ => False) rfl (by first | (go_simp; done) | (go_simp; rfl)) ?aP (fun _ hk => hk.elim) ?aF ?aO ?aB ?aS ?aL ?_; (case aP => exact k39_mkM _ _ _ (⟨t169, t170, t171⟩ : S39)); (case aB => exact blA); (case aF => exact (fun k_ hk => ⟨Kd.freshB (g := gb165) (o := .cells #[.int .i64 a1_0, .int .i64 a1_1, .int .i64 a1_2] 39 (0, 0)) (bkF BK165) k_ hk, Kd.freshB (g := gb173) (o := .cells #[.int .i64 t169, .int .i64 t170, .int .i64 t171] 39 (0, 0)) (by (with_reducible repeat (first | refine blk_drewN ?_ _ | refine blk_drew ?_ | refine blk_alloc ?_ _)); refine blk_put (cs := #[.int .i64 t169, .int .i64 t170, .int .i64 0]) ?_ 2 _ rfl; (with_reducible repeat (first | refine blk_drewN ?_ _ | refine blk_drew ?_ | refine blk_alloc ?_ _)); refine blk_put (cs := #[.int .i64 t169, .int .i64 0, .int .i64 0]) ?_ 1 _ rfl; (with_reducible repeat (first | refine blk_drewN ?_ _ | refine blk_drew ?_ | refine blk_alloc ?_ _)); refine blk_put (cs := #[.int .i64 0, .int .i64 0, .int .i64 0]) ?_ 0 _ rfl; (with_reducible repeat (first | refine blk_drewN ?_ _ | refine blk_drew ?_ | refine blk_alloc ?_ _)); exact BK173.out) k_ hk⟩)); (case aO => exact (by (with_reducible repeat (first | apply Kd.R_alloc | apply Kd.R_drewN | apply Kd.R_drew)); exact Kd.R_mono (Kd.R_far (p := ⟨gb173, 2, none⟩) (Kd.R_far (p := ⟨gb173, 1, none⟩) (Kd.R_far (p := ⟨gb173, 0, none⟩) (Kd.R_mono HO_6.out (fun k_ hk => (⟨hk, hk.2⟩ : _ ∧ k_ ≠ gb173))) (fun _ hk => hk.2) (.int .i64 t169)) (fun _ hk => hk.2) (.int .i64 t170)) (fun _ hk => hk.2) (.int .i64 t171)) (fun _ hk => ⟨hk.1.1, hk.1.2⟩))); (case aS => exact (below_size blA)); (case aL => have := LMc9.out; omega); intro v175 w15 ho hb hg hat; rw [← Ny174.out] at ho; have n0_ := Aside0.mk (blk_grown (g := gb165) (o := .cells #[.int .i64 a1_0, .int .i64 a1_1, .int .i64 a1_2] 39 (0, 0)) (bkF BK165) hg (Kd.R_away HO_6.out (fun _ hk => hk.1))); have n1_ := Aside0.mk (blk_grown (g := gb173) (o := .cells #[.int .i64 t169, .int .i64 t170, .int .i64 t171] 39 (0, 0)) (by (with_reducible repeat (first | refine blk_drewN ?_ _ | refine blk_drew ?_ | refine blk_alloc ?_ _)); refine blk_put (cs := #[.int .i64 t169, .int .i64 t170, .int .i64 0]) ?_ 2 _ rfl; (with_reducible repeat (first | refine blk_drewN ?_ _ | refine blk_drew ?_ | refine blk_alloc ?_ _)); refine blk_put (cs := #[.int .i64 t169, .int .i64 0, .int .i64 0]) ?_ 1 _ rfl; (with_reducible repeat (first | refine blk_drewN ?_ _ | refine blk_drew ?_ | refine blk_alloc ?_ _)); refine blk_put (cs := #[.int .i64 0, .int .i64 0, .int .i64 0]) ?_ 0 _ rfl; (with_reducible repeat (first | refine blk_drewN ?_ _ | refine blk_drew ?_ | refine blk_alloc ?_ _)); exact BK173.out) hg (Kd.R_away HO_6.out (fun _ hk => hk.2))); have n2_ := Aside0.mk (hb); have n3_ := Aside0.mk (ho); clear BK165; clear BK173; clear HB; clear HO_6; have BK165 := n0_; have BK173 := n1_; have HB := n2_; have HO176 := n3_; clear n0_ n1_ n2_ n3_; clear ho hb hg hat))
      go_roundg k1
      case measure => have := HK1.out; omega
      case rel => exact ⟨(y174), (wrap64 (x7_1 + 1)), hB, H', ⟨by have := HK1.out; omega⟩, ⟨by (with_reducible repeat (first | apply Kd.R_alloc | apply Kd.R_drewN | apply Kd.R_drew)); exact Kd.R_mono HO176.out (fun _ hk => hk.1)⟩, ⟨bkA BK165⟩, ⟨blA⟩⟩
     ·
      rw [if_neg c9] at H
      exact absurd H (by simp)
    ·
     replace c8 := Bool.eq_false_iff.mpr c8
     subst c8
     rw [if_neg (show ¬ (false = true) by decide)] at H
     try dsimp only at H
     simp only [Option.some.injEq, Prod.mk.injEq] at H
     obtain ⟨rfl, rfl⟩ := H
     have hcz16_0 : wr.cell? ⟨gb165, 0, none⟩ = some (.int .i64 a1_0) := cA BK165 0
     have hcz16_1 : wr.cell? ⟨gb165, 1, none⟩ = some (.int .i64 a1_1) := cA BK165 1
     have hcz16_2 : wr.cell? ⟨gb165, 2, none⟩ = some (.int .i64 a1_2) := cA BK165 2
     have hfz16_0 := blk_frozen BK165.out 0
     have hfz16_1 := blk_frozen BK165.out 1
     have hfz16_2 := blk_frozen BK165.out 2
     go_wp2_with (first | ((with_reducible refine gate_callee (f := 158) rfl ?_); refine goesL_ (some 20) rfl rfl Try.func158 (by kernel_rfl) rfl #[.int .i64 a0, .agg #[.int .i64 a1_0, .int .i64 a1_1, .int .i64 a1_2], .int .i64 x7_1] rfl hA ?_; (with_reducible refine (spec_l01Child.calls k1 a0 a1_0 a1_1 a1_2 x7_1 t169 t170 t171 false _ A7.out).mono ?_); rintro e w17 ⟨rfl, hb⟩; refine ⟨_, rfl, ?_⟩; replace HO_6 := Aside0.mk (Kd.R_below (rA HO_6) hb); replace BK165 := kB BK165 hb; replace HB := lB hb; (try clear hb); (try clear hb2); (try clear hk); (try clear hi)) | ((with_reducible refine gate_dst (N := 8) rfl ?_); refine box_event ?hg (N := 8) ?hd (cs := #[.int .i64 0, .int .i64 0, .int .i64 0]) (t := 39) ?hr ?_; (case hd => rfl); (case hg => rfl); (case hr => first | (go_simp; done) | (go_simp; rfl)); intro gb173 hg w18 hbox hb; have BK173 := Aside0.mk (hbox); have GW173 := sA hg; have GE173 := sA hg; have NB165_173 := nA hg BK165; have NB173_165 := nB hg BK165; replace HO_6 := Aside0.mk (Kd.R_below (Kd.R_elderB (rA HO_6) gb173 (Nat.le_of_eq hg.symm)) hb); replace BK165 := kB BK165 hb; replace HB := lB hb; clear hb hbox hg; have hnb19 := NB173_165.out; have hnc19 := NB165_173.out; have hcz20_0 : w18.cell? ⟨gb173, 0, none⟩ = some (.int .i64 0) := cA BK173 0; have hcz20_1 : w18.cell? ⟨gb173, 1, none⟩ = some (.int .i64 0) := cA BK173 1; have hcz20_2 : w18.cell? ⟨gb173, 2, none⟩ = some (.int .i64 0) := cA BK173 2; have hfz20_0 := blk_frozen BK173.out 0; have hfz20_1 := blk_frozen BK173.out 1; have hfz20_2 := blk_frozen BK173.out 2))
     go_ret2
     exact ⟨_, by first | rfl | (simp [errW_none, errW_some] <;> rfl) | (simp [*, errW_none, errW_some] <;> rfl), by first | exact Kd.R_nil _ _ _ _ _ | exact Kd.N_nil _ _ _ _ _ | exact Kd.V_nil _ _ _ _ _ | exact Kd.Q_nil _ _ _ _ _ | exact Kd.S_nil _ _ _ _ _, blA⟩
   ·
    rw [if_neg c6] at H
    have c6b0 := decide_eq_false c6
    clear c6
    simp only [Option.some.injEq, Prod.mk.injEq] at H
    obtain ⟨rfl, rfl⟩ := H
    go_wp2
    go_ret2
    exact ⟨_, by first | rfl | (simp [errW_none, errW_some] <;> rfl) | (simp [*, errW_none, errW_some] <;> rfl), by (with_reducible repeat (first | apply Kd.R_alloc | apply Kd.R_drewN | apply Kd.R_drew)); exact Kd.R_mono HO_6.out (fun _ hk => trivial), blA⟩
/-! ### impl_distance: function 96 -/
def impl_distance.f (k : Nat) (a0 : Int) (a1_0 : Int) (a1_1 : Int) (a1_2 : Int) (a2_0 : Int) (a2_1 : Int) (a2_2 : Int) : Option (Int) := (impl_joinLevel.f k a0 a1_0 a1_1 a1_2 a2_0 a2_1 a2_2).bind fun t267 => (some (wrap64 ((wrap64 (a1_0 + a2_0)) - (wrap64 (2 * t267)))))
theorem impl_distance.mono : ∀ a0 a1 a2 a3 a4 a5 a6 k, LeO (impl_distance.f k a0 a1 a2 a3 a4 a5 a6) (impl_distance.f (k + 1) a0 a1 a2 a3 a4 a5 a6) := by
 intro a0 a1 a2 a3 a4 a5 a6 k
 unfold impl_distance.f
 repeat' first
   | (with_reducible exact impl_joinLevel.mono _ _ _ _ _ _ _ _)
   | (with_reducible exact LeO.refl _)
   | (with_reducible exact LeO.none _)
   | (with_reducible refine LeO.ite ?_ ?_)
   | (with_reducible refine LeO.bind ?_ (fun _ => ?_))
def impl_distance.T1 : Bool × List (List Nat × List Nat) := (true, [([], []), ([0], [0]), ([], []), ([2], [2]), ([1, 3], [1, 3]), ([], []), ([], []), ([], []), ([5, 6, 7], [5, 6, 7]), ([8], [8]), ([4, 9], [4, 9]), ([10, 8, 0, 1, 2, 3, 4, 5, 6, 7, 8, 9, 10], [10])])
def impl_distance.B1 : List Nat := [0, 1, 0, 4, 15, 0, 0, 0, 224, 480, 1023, 2047]
theorem impl_distance.tab1 : rtab .any (opsOf Try.f96 1) = impl_distance.T1 := by kernel_rfl
theorem impl_distance.bits1 : waitsOk impl_distance.T1.2 impl_distance.B1 = true := by kernel_rfl
set_option maxHeartbeats 8000000 in
set_option maxRecDepth 100000 in
theorem impl_distance.calls (k : Nat) (a0 : Int) (a1_0 : Int) (a1_1 : Int) (a1_2 : Int) (a2_0 : Int) (a2_1 : Int) (a2_2 : Int) (r : Int) (w : World) (h : impl_distance.f k a0 a1_0 a1_1 a1_2 a2_0 a2_1 a2_2 = some r) :
  Calls Try.prog 96 #[.int .i64 a0, .agg #[.int .i64 a1_0, .int .i64 a1_1, .int .i64 a1_2], .agg #[.int .i64 a2_0, .int .i64 a2_1, .int .i64 a2_2]] w fun e w' => e = .returned (.int .i64 r) ∧ Below w.heap.size w w' := by
 have hu39 := Try.underlying39
 have HB := Aside0.mk (Below.refl w.heap.size w)
 have H := h
 unfold impl_distance.f at H
 clear h
 replace H := bS H
 obtain ⟨t267, A4, H⟩ := H
 try dsimp only at H
 obtain rfl := Option.some.inj H
 go_enter Try.func96, Try.ntmps96
 try go_wp2_with (first | ((with_reducible refine gate_dst (N := 4) rfl ?_); refine box_event ?hg (N := 4) ?hd (cs := #[.int .i64 a1_0, .int .i64 a1_1, .int .i64 a1_2]) (t := 39) ?hr ?_; (case hd => rfl); (case hg => rfl); (case hr => first | (go_simp; done) | (go_simp; rfl)); intro gb265 hg w5 hbox hb; have n0_ := lB hb; have n1_ := Aside0.mk (hbox); have n2_ := sA hg; have n3_ := sA hg; clear HB; have HB := n0_; have BK265 := n1_; have GW265 := n2_; have GE265 := n3_; clear n0_ n1_ n2_ n3_; clear hb hbox hg) | ((with_reducible refine gate_dst (N := 5) rfl ?_); refine box_event ?hg (N := 5) ?hd (cs := #[.int .i64 a2_0, .int .i64 a2_1, .int .i64 a2_2]) (t := 39) ?hr ?_; (case hd => rfl); (case hg => rfl); (case hr => first | (go_simp; done) | (go_simp; rfl)); intro gb266 hg w6 hbox hb; have n0_ := kB BK265 hb; have n1_ := lB hb; have n2_ := Aside0.mk (hbox); have n3_ := sA hg; have n4_ := sA hg; have n5_ := nA hg BK265; have n6_ := nB hg BK265; clear BK265; clear HB; have BK265 := n0_; have HB := n1_; have BK266 := n2_; have GW266 := n3_; have GE266 := n4_; have NB265_266 := n5_; have NB266_265 := n6_; clear n0_ n1_ n2_ n3_ n4_ n5_ n6_; clear hb hbox hg))
 have n0_ := Aside0.mk (blk_drew BK265.out)
 have n1_ := Aside0.mk (blk_drew BK266.out)
 have n2_ := Aside0.mk (below_drew1 HB.out)
 clear BK265
 clear BK266
 clear HB
 have BK265 := n0_
 have BK266 := n1_
 have HB := n2_
 clear n0_ n1_ n2_
 refine start_ (n := 12) (S := fun w' => w'.cell? ⟨gb265, 0, none⟩ = some (.int .i64 a1_0) ∧ w'.cell? ⟨gb265, 1, none⟩ = some (.int .i64 a1_1) ∧ w'.cell? ⟨gb265, 2, none⟩ = some (.int .i64 a1_2) ∧ w'.cell? ⟨gb266, 0, none⟩ = some (.int .i64 a2_0) ∧ w'.cell? ⟨gb266, 1, none⟩ = some (.int .i64 a2_1) ∧ w'.cell? ⟨gb266, 2, none⟩ = some (.int .i64 a2_2)) (ds := []) #[Z, Z, Z, Z, Z, Z, Z, Z, Z, Z, Z, Z] (by kernel_rfl) rfl rfl ⟨cA BK265 0, cA BK265 1, cA BK265 2, cA BK266 0, cA BK266 1, cA BK266 2⟩ (fun hHeld => ?_); refine with_tabW impl_distance.tab1 impl_distance.bits1 (fun HT_ HW_ => ?_)
 generalize w6.drew = w7 at BK265 BK266 HB hHeld ⊢
 refine pure_ (i := 0) (N := some 7) (v := ?_) (a' := ?_) #[Y, Z, Z, Z, Z, Z, Z, Z, Z, Z, Z, Z] rfl rfl (any_of HT_.out (by kernel_rfl)) (fun _ _ _ h => h) (Or.inl ⟨by rfl, ?_⟩) ?_ ?_
 rotate_left
 ·
  intro w'
  go_simp
  with_reducible rfl
 rotate_left
 ·
  simp only [pA]
  rfl
 refine pure_ (i := 2) (N := some 9) (v := ?_) (a' := ?_) #[Y, Z, Y, Z, Z, Z, Z, Z, Z, Z, Z, Z] rfl rfl (any_of HT_.out (by kernel_rfl)) (fun _ _ _ h => h) (Or.inl ⟨by rfl, ?_⟩) ?_ ?_
 rotate_left
 ·
  intro w'
  go_simp
  with_reducible rfl
 rotate_left
 ·
  simp only [pA]
  rfl
 refine pure_ (i := 5) (N := some 12) (v := ?_) (a' := ?_) #[Y, Z, Y, Z, Z, Y, Z, Z, Z, Z, Z, Z] rfl rfl (any_of HT_.out (by kernel_rfl)) (fun _ _ _ h => h) (Or.inl ⟨by rfl, ?_⟩) ?_ ?_
 rotate_left
 ·
  intro w'
  go_simp
  with_reducible rfl
 rotate_left
 ·
  simp only [pA]
  rfl
 refine take_ (i := 1) (N := some 8) (v := ?_) (a' := ?_) #[Y, Y, Y, Z, Z, Y, Z, Z, Z, Z, Z, Z] rfl rfl (take_ofW HT_.out HW_.out (by kernel_rfl)) (fun _ _ _ h => h) (Or.inl ⟨by rfl, ?_⟩) hHeld ?_ ?_
 rotate_left
 ·
  rintro w' ⟨s0, s1, s2, s3, s4, s5⟩
  go_simp
  with_reducible rfl
 rotate_left
 ·
  simp only [pA]
  rfl
 refine take_ (i := 3) (N := some 10) (v := ?_) (a' := ?_) #[Y, Y, Y, Y, Z, Y, Z, Z, Z, Z, Z, Z] rfl rfl (take_ofW HT_.out HW_.out (by kernel_rfl)) (fun _ _ _ h => h) (Or.inl ⟨by rfl, ?_⟩) hHeld ?_ ?_
 rotate_left
 ·
  rintro w' ⟨s0, s1, s2, s3, s4, s5⟩
  go_simp
  with_reducible rfl
 rotate_left
 ·
  simp only [pA]
  rfl
 refine pure_ (i := 4) (N := some 11) (v := ?_) (a' := ?_) #[Y, Y, Y, Y, Y, Y, Z, Z, Z, Z, Z, Z] rfl rfl (any_of HT_.out (by kernel_rfl)) (fun _ _ _ h => h) (Or.inl ⟨by rfl, ?_⟩) ?_ ?_
 rotate_left
 ·
  intro w'
  go_simp
  with_reducible rfl
 rotate_left
 ·
  simp only [pA]
  rfl
 refine take_ (i := 6) (N := some 13) (v := ?_) (a' := ?_) #[Y, Y, Y, Y, Y, Y, Y, Z, Z, Z, Z, Z] rfl rfl (take_ofW HT_.out HW_.out (by kernel_rfl)) (fun _ _ _ h => h) (Or.inl ⟨by rfl, ?_⟩) hHeld ?_ ?_
 rotate_left
 ·
  rintro w' ⟨s0, s1, s2, s3, s4, s5⟩
  go_simp
  with_reducible rfl
 rotate_left
 ·
  simp only [pA]
  rfl
 refine take_ (i := 7) (N := some 14) (v := ?_) (a' := ?_) #[Y, Y, Y, Y, Y, Y, Y, Y, Z, Z, Z, Z] rfl rfl (take_ofW HT_.out HW_.out (by kernel_rfl)) (fun _ _ _ h => h) (Or.inl ⟨by rfl, ?_⟩) hHeld ?_ ?_
 rotate_left
 ·
  rintro w' ⟨s0, s1, s2, s3, s4, s5⟩
  go_simp
  with_reducible rfl
 rotate_left
 ·
  simp only [pA]
  rfl
 refine one_ (i := 8) (N := some 15) #[Y, Y, Y, Y, Y, Y, Y, Y, Y, Z, Z, Z] rfl rfl (one_of HT_.out (by kernel_rfl)) (by decide) (fun K hK => ?_)
 refine goes_ Try.func134 (by kernel_rfl) rfl #[.int .i64 a0, .agg #[.int .i64 a1_0, .int .i64 a1_1, .int .i64 a1_2], .agg #[.int .i64 a2_0, .int .i64 a2_1, .int .i64 a2_2]] (by rfl) rfl rfl hA ?_
 with_reducible refine (impl_joinLevel.calls k a0 a1_0 a1_1 a1_2 a2_0 a2_1 a2_2 t267 _ A4.out).mono ?_
 rintro e w8 ⟨rfl, hb⟩
 refine ⟨_, rfl, ?_⟩
 replace BK265 := kB BK265 hb
 replace BK266 := kB BK266 hb
 replace HB := lB hb
 (try clear hb)
 (try clear hb2)
 (try clear hk)
 (try clear hi)
 refine hK.out _ _ ⟨cA BK265 0, cA BK265 1, cA BK265 2, cA BK266 0, cA BK266 1, cA BK266 2⟩ (fun hHeld => ?_)
 clear hK K
 refine norm_ (a' := ?_) ?_ ?_
 rotate_left
 ·
  show Act.put _ (some 15) _ = _
  simp only [pA]
  rfl
 refine pure_ (i := 9) (N := some 16) (v := ?_) (a' := ?_) #[Y, Y, Y, Y, Y, Y, Y, Y, Y, Y, Z, Z] rfl rfl (any_of HT_.out (by kernel_rfl)) (fun _ _ _ h => h) (Or.inl ⟨by rfl, ?_⟩) ?_ ?_
 rotate_left
 ·
  intro w'
  go_simp
  with_reducible rfl
 rotate_left
 ·
  simp only [pA]
  rfl
 refine pure_ (i := 10) (N := some 17) (v := ?_) (a' := ?_) #[Y, Y, Y, Y, Y, Y, Y, Y, Y, Y, Y, Z] rfl rfl (any_of HT_.out (by kernel_rfl)) (fun _ _ _ h => h) (Or.inl ⟨by rfl, ?_⟩) ?_ ?_
 rotate_left
 ·
  intro w'
  go_simp
  with_reducible rfl
 rotate_left
 ·
  simp only [pA]
  rfl
 refine pure_ (i := 11) (N := some 6) (v := ?_) (a' := ?_) #[Y, Y, Y, Y, Y, Y, Y, Y, Y, Y, Y, Y] rfl rfl (any_of HT_.out (by kernel_rfl)) (fun _ _ _ h => h) (Or.inl ⟨by rfl, ?_⟩) ?_ ?_
 rotate_left
 ·
  intro w'
  go_simp
  with_reducible rfl
 rotate_left
 ·
  simp only [pA]
  rfl
 refine done_ (done_of HT_.out (by kernel_rfl)) ?_
 try go_wp2
 go_ret
 exact finA blA
/-! ### impl_neighbour: function 148 -/
def impl_neighbour.f (k : Nat) (a0 : Int) (a1_0 : Int) (a1_1 : Int) (a1_2 : Int) (a2 : Int) : Option (Int × Int × Int × Bool) := if a2 = 0 then ((impl_parent.f k a0 a1_0 a1_1 a1_2).bind fun bt291 => (some (bt291.1, bt291.2.1, bt291.2.2.1, bt291.2.2.2))) else ((impl_child.f k a0 a1_0 a1_1 a1_2 (wrap64 (a2 - 1))).bind fun bt295 => (some (bt295.1, bt295.2.1, bt295.2.2.1, bt295.2.2.2)))
theorem impl_neighbour.mono : ∀ a0 a1 a2 a3 a4 k, LeO (impl_neighbour.f k a0 a1 a2 a3 a4) (impl_neighbour.f (k + 1) a0 a1 a2 a3 a4) := by
 intro a0 a1 a2 a3 a4 k
 unfold impl_neighbour.f
 repeat' first
   | (with_reducible exact impl_child.mono _ _ _ _ _ _)
   | (with_reducible exact impl_parent.mono _ _ _ _ _)
   | (with_reducible exact LeO.refl _)
   | (with_reducible exact LeO.none _)
   | (with_reducible refine LeO.ite ?_ ?_)
   | (with_reducible refine LeO.bind ?_ (fun _ => ?_))
set_option maxHeartbeats 8000000 in
set_option maxRecDepth 100000 in
theorem impl_neighbour.calls (k : Nat) (a0 : Int) (a1_0 : Int) (a1_1 : Int) (a1_2 : Int) (a2 : Int) (r1 : Int) (r2 : Int) (r3 : Int) (r4 : Bool) (w : World) (h : impl_neighbour.f k a0 a1_0 a1_1 a1_2 a2 = some (r1, r2, r3, r4)) :
  Calls Try.prog 148 #[.int .i64 a0, .agg #[.int .i64 a1_0, .int .i64 a1_1, .int .i64 a1_2], .int .i64 a2] w fun e w' => e = .returned (.tuple #[.agg #[.int .i64 r1, .int .i64 r2, .int .i64 r3], .bool r4]) ∧ Below w.heap.size w w' := by
 have hu39 := Try.underlying39
 have HB := Aside0.mk (Below.refl w.heap.size w)
 have H := h
 unfold impl_neighbour.f at H
 clear h
 by_cases c4 : a2 = 0
 ·
  rw [if_pos c4] at H
  have c4b0 : (a2 == 0) = true := beq_iff_eq.mpr c4
  have c4b1 : (a2 != 0) = false := bne_eq_false_iff_eq.mpr c4
  clear c4
  replace H := bS H
  obtain ⟨⟨t291, t292, t293, t294⟩, A5, H⟩ := H
  try dsimp only at H
  simp only [Option.some.injEq, Prod.mk.injEq] at H
  obtain ⟨rfl, rfl, rfl, rfl⟩ := H
  go_enter Try.func148, Try.ntmps148
  go_wp2_with (first | ((with_reducible refine gate_dst (N := 4) rfl ?_); refine box_event ?hg (N := 4) ?hd (cs := #[.int .i64 a1_0, .int .i64 a1_1, .int .i64 a1_2]) (t := 39) ?hr ?_; (case hd => rfl); (case hg => rfl); (case hr => first | (go_simp; done) | (go_simp; rfl)); intro gb289 hg w6 hbox hb; have BK289 := Aside0.mk (hbox); have GW289 := sA hg; have GE289 := sA hg; replace HB := lB hb; clear hb hbox hg) | ((with_reducible refine gate_dst (N := 6) rfl ?_); refine box_event ?hg (N := 6) ?hd (cs := #[.int .i64 0, .int .i64 0, .int .i64 0]) (t := 39) ?hr ?_; (case hd => rfl); (case hg => rfl); (case hr => first | (go_simp; done) | (go_simp; rfl)); intro gb290 hg w7 hbox hb; have BK290 := Aside0.mk (hbox); have GW290 := sA hg; have GE290 := sA hg; have NB289_290 := nA hg BK289; have NB290_289 := nB hg BK289; replace BK289 := kB BK289 hb; replace HB := lB hb; clear hb hbox hg; have hnb8 := NB289_290.out; have hnc8 := NB290_289.out; have hcz9_0 : w7.cell? ⟨gb289, 0, none⟩ = some (.int .i64 a1_0) := cA BK289 0; have hcz9_1 : w7.cell? ⟨gb289, 1, none⟩ = some (.int .i64 a1_1) := cA BK289 1; have hcz9_2 : w7.cell? ⟨gb289, 2, none⟩ = some (.int .i64 a1_2) := cA BK289 2; have hfz9_0 := blk_frozen BK289.out 0; have hfz9_1 := blk_frozen BK289.out 1; have hfz9_2 := blk_frozen BK289.out 2) | ((with_reducible refine gate_callee (f := 94) rfl ?_); refine goesL_ (some 12) rfl rfl Try.func94 (by kernel_rfl) rfl #[.int .i64 a0, .agg #[.int .i64 a1_0, .int .i64 a1_1, .int .i64 a1_2]] rfl hA ?_; (with_reducible refine (impl_parent.calls k a0 a1_0 a1_1 a1_2 t291 t292 t293 t294 _ A5.out).mono ?_); rintro e w10 ⟨rfl, hb⟩; refine ⟨_, rfl, ?_⟩; replace BK289 := kB BK289 hb; replace BK290 := kB BK290 hb; replace HB := lB hb; (try clear hb); (try clear hb2); (try clear hk); (try clear hi); have hcz11_0 : w10.cell? ⟨gb290, 0, none⟩ = some (.int .i64 0) := cA BK290 0; have hcz11_1 : w10.cell? ⟨gb290, 1, none⟩ = some (.int .i64 0) := cA BK290 1; have hcz11_2 : w10.cell? ⟨gb290, 2, none⟩ = some (.int .i64 0) := cA BK290 2; have hfz11_0 := blk_frozen BK290.out 0; have hfz11_1 := blk_frozen BK290.out 1; have hfz11_2 := blk_frozen BK290.out 2))
  refine bodyPost_ret (results_ct rfl _ _ gb290 39 #[.int .i64 t291, .int .i64 t292, .int .i64 t293] (0, 0) _ rfl (by (with_reducible repeat (first | refine blk_drewN ?_ _ | refine blk_drew ?_ | refine blk_alloc ?_ _)); refine blk_put (cs := #[.int .i64 t291, .int .i64 t292, .int .i64 0]) ?_ 2 _ rfl; (with_reducible repeat (first | refine blk_drewN ?_ _ | refine blk_drew ?_ | refine blk_alloc ?_ _)); refine blk_put (cs := #[.int .i64 t291, .int .i64 0, .int .i64 0]) ?_ 1 _ rfl; (with_reducible repeat (first | refine blk_drewN ?_ _ | refine blk_drew ?_ | refine blk_alloc ?_ _)); refine blk_put (cs := #[.int .i64 0, .int .i64 0, .int .i64 0]) ?_ 0 _ rfl; (with_reducible repeat (first | refine blk_drewN ?_ _ | refine blk_drew ?_ | refine blk_alloc ?_ _)); exact BK290.out) Try.underlying39 rfl (by kernel_rfl)) rfl ?_
  exact finA blA
 ·
  rw [if_neg c4] at H
  have c4b0 : (a2 == 0) = false := beq_eq_false_iff_ne.mpr c4
  have c4b1 : (a2 != 0) = true := bne_iff_ne.mpr c4
  replace H := bS H
  obtain ⟨⟨t295, t296, t297, t298⟩, A12, H⟩ := H
  try dsimp only at H
  simp only [Option.some.injEq, Prod.mk.injEq] at H
  obtain ⟨rfl, rfl, rfl, rfl⟩ := H
  go_enter Try.func148, Try.ntmps148
  go_wp2_with (first | ((with_reducible refine gate_dst (N := 4) rfl ?_); refine box_event ?hg (N := 4) ?hd (cs := #[.int .i64 a1_0, .int .i64 a1_1, .int .i64 a1_2]) (t := 39) ?hr ?_; (case hd => rfl); (case hg => rfl); (case hr => first | (go_simp; done) | (go_simp; rfl)); intro gb289 hg w13 hbox hb; have BK289 := Aside0.mk (hbox); have GW289 := sA hg; have GE289 := sA hg; replace HB := lB hb; clear hb hbox hg) | ((with_reducible refine gate_dst (N := 6) rfl ?_); refine box_event ?hg (N := 6) ?hd (cs := #[.int .i64 0, .int .i64 0, .int .i64 0]) (t := 39) ?hr ?_; (case hd => rfl); (case hg => rfl); (case hr => first | (go_simp; done) | (go_simp; rfl)); intro gb290 hg w14 hbox hb; have BK290 := Aside0.mk (hbox); have GW290 := sA hg; have GE290 := sA hg; have NB289_290 := nA hg BK289; have NB290_289 := nB hg BK289; replace BK289 := kB BK289 hb; replace HB := lB hb; clear hb hbox hg; have hnb15 := NB289_290.out; have hnc15 := NB290_289.out; have hcz16_0 : w14.cell? ⟨gb289, 0, none⟩ = some (.int .i64 a1_0) := cA BK289 0; have hcz16_1 : w14.cell? ⟨gb289, 1, none⟩ = some (.int .i64 a1_1) := cA BK289 1; have hcz16_2 : w14.cell? ⟨gb289, 2, none⟩ = some (.int .i64 a1_2) := cA BK289 2; have hfz16_0 := blk_frozen BK289.out 0; have hfz16_1 := blk_frozen BK289.out 1; have hfz16_2 := blk_frozen BK289.out 2) | ((with_reducible refine gate_callee (f := 159) rfl ?_); refine goesL_ (some 19) rfl rfl Try.func159 (by kernel_rfl) rfl #[.int .i64 a0, .agg #[.int .i64 a1_0, .int .i64 a1_1, .int .i64 a1_2], .int .i64 (wrap64 (a2 - 1))] rfl hA ?_; (with_reducible refine (impl_child.calls k a0 a1_0 a1_1 a1_2 (wrap64 (a2 - 1)) t295 t296 t297 t298 _ A12.out).mono ?_); rintro e w17 ⟨rfl, hb⟩; refine ⟨_, rfl, ?_⟩; replace BK289 := kB BK289 hb; replace BK290 := kB BK290 hb; replace HB := lB hb; (try clear hb); (try clear hb2); (try clear hk); (try clear hi); have hcz18_0 : w17.cell? ⟨gb290, 0, none⟩ = some (.int .i64 0) := cA BK290 0; have hcz18_1 : w17.cell? ⟨gb290, 1, none⟩ = some (.int .i64 0) := cA BK290 1; have hcz18_2 : w17.cell? ⟨gb290, 2, none⟩ = some (.int .i64 0) := cA BK290 2; have hfz18_0 := blk_frozen BK290.out 0; have hfz18_1 := blk_frozen BK290.out 1; have hfz18_2 := blk_frozen BK290.out 2))
  refine bodyPost_ret (results_ct rfl _ _ gb290 39 #[.int .i64 t295, .int .i64 t296, .int .i64 t297] (0, 0) _ rfl (by (with_reducible repeat (first | refine blk_drewN ?_ _ | refine blk_drew ?_ | refine blk_alloc ?_ _)); refine blk_put (cs := #[.int .i64 t295, .int .i64 t296, .int .i64 0]) ?_ 2 _ rfl; (with_reducible repeat (first | refine blk_drewN ?_ _ | refine blk_drew ?_ | refine blk_alloc ?_ _)); refine blk_put (cs := #[.int .i64 t295, .int .i64 0, .int .i64 0]) ?_ 1 _ rfl; (with_reducible repeat (first | refine blk_drewN ?_ _ | refine blk_drew ?_ | refine blk_alloc ?_ _)); refine blk_put (cs := #[.int .i64 0, .int .i64 0, .int .i64 0]) ?_ 0 _ rfl; (with_reducible repeat (first | refine blk_drewN ?_ _ | refine blk_drew ?_ | refine blk_alloc ?_ _)); exact BK290.out) Try.underlying39 rfl (by kernel_rfl)) rfl ?_
  exact finA blA
end Go.Proofs.Ytccpccnnbacgjaa.PAll
