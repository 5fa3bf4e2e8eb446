-- turned for this claim out of the kit's print: the same functions, packed anew
import Derived.Test.YtccpccnnbacgjaaQx
import Derived.Test.YtccpccnnbacgjaaQLtoBall
import Derived.Test.YtccpccnnbacgjaaQimplareMatrices
import Derived.Test.YtccpccnnbacgjaaQspecl02Join
import Derived.Test.YtccpccnnbacgjaaQspecl04Reduce
import Derived.Test.YtccpccnnbacgjaaQspecl06Movers
namespace Go.Proofs.Ytccpccnnbacgjaa.PAll
open Go.RowKit Go.Proofs.YtccpccnnbacgjaaW.PrintWords Go.Proofs.YtccpccnnbacgjaaW.PrintLast Go.Proofs.YtccpccnnbacgjaaW.PrintMore
attribute [local go_sem] Go.Proofs.Ytccpccnnbacgjaa.Aux.setCell_drewN Go.Proofs.Ytccpccnnbacgjaa.Aux.isSome_setCell max2_int min2_int max_two min_two max_three min_three max_four min_four   -- for this text's walks alone
set_option linter.unusedVariables false
set_option linter.unusedSimpArgs false
/-! ### spec_l06Code: function 101 -/
def spec_l06Code.f (k : Nat) (a0 : Int) (l1 : List (S26)) (a2 : Int) : Option (Int) := (spec_l01Prime.f a0).bind fun t1028 => (if t1028 = true then ((spec_l06Movers.f k l1 6).bind fun t1029 => (if t1029 = 0 then ((spec_l01In.f a2 0 3).bind fun t1030 => (if t1030 = true then (some t1029) else (some 2))) else (some t1029))) else (some 1))
theorem spec_l06Code.mono : ∀ a0 a1 a2 k, LeO (spec_l06Code.f k a0 a1 a2) (spec_l06Code.f (k + 1) a0 a1 a2) := by
 intro a0 a1 a2 k
 unfold spec_l06Code.f
 repeat' first
   | (with_reducible exact spec_l06Movers.mono _ _ _)
   | (with_reducible exact LeO.refl _)
   | (with_reducible exact LeO.none _)
   | (with_reducible refine LeO.ite ?_ ?_)
   | (with_reducible refine LeO.bind ?_ (fun _ => ?_))
set_option maxHeartbeats 8000000 in
set_option maxRecDepth 100000 in
theorem spec_l06Code.calls (k : Nat) (a0 : Int) (A1 : Option Addr) (c1 : Nat) (l1 : List (S26)) (a2 : Int) (r : Int) (w : World) (hr1 : Kd.C k26 w A1 l1.length l1) (hc1 : l1.length ≤ c1) (h : spec_l06Code.f k a0 l1 a2 = some r) :
  Calls Try.prog 101 #[.int .i64 a0, .slice A1 l1.length c1, .int .i64 a2] w fun e w' => e = .returned (.int .i64 r) ∧ Below w.heap.size w w' := by
 have HR1 := Aside0.mk hr1
 have HC1 := Aside0.mk hc1
 clear hr1 hc1
 have HB := Aside0.mk (Below.refl w.heap.size w)
 have H := h
 unfold spec_l06Code.f at H
 clear h
 replace H := bS H
 obtain ⟨t1028, A4, H⟩ := H
 try dsimp only at H
 by_cases c5 : t1028 = true
 ·
  subst c5
  rw [if_pos rfl] at H
  try dsimp only at H
  replace H := bS H
  obtain ⟨t1029, A6, H⟩ := H
  try dsimp only at H
  by_cases c7 : t1029 = 0
  ·
   rw [if_pos c7] at H
   have c7b0 : (t1029 == 0) = true := beq_iff_eq.mpr c7
   have c7b1 : (t1029 != 0) = false := bne_eq_false_iff_eq.mpr c7
   clear c7
   replace H := bS H
   obtain ⟨t1030, A8, H⟩ := H
   try dsimp only at H
   by_cases c9 : t1030 = true
   ·
    subst c9
    rw [if_pos rfl] at H
    try dsimp only at H
    obtain rfl := Option.some.inj H
    go_enter Try.func101, Try.ntmps101
    go_wp2_with (first | ((with_reducible refine gate_callee (f := 136) rfl ?_); refine goesL_ (some 9) rfl rfl Try.func136 (by kernel_rfl) rfl #[.int .i64 a0] rfl hA ?_; (with_reducible refine (spec_l01Prime.calls a0 true _ A4.out).mono ?_); rintro e w' ⟨rfl, ⟨nd, rfl⟩⟩; refine ⟨_, rfl, ?_⟩) | ((with_reducible refine gate_callee (f := 138) rfl ?_); refine goesL_ (some 12) rfl rfl Try.func138 (by kernel_rfl) rfl #[.slice A1 l1.length c1, .int .i64 6] rfl hA ?_; (with_reducible refine (spec_l06Movers.calls k _ _ l1 6 t1029 _ ?side1 ?side2 A6.out).mono ?_); (case side1 => repeat (first | exact HR1.out | (with_reducible refine Kd.C_alloc ?_ _) | (with_reducible refine Kd.C_drewN ?_ _) | (with_reducible refine Kd.C_drew ?_))); (case side2 => exact HC1.out); rintro e w10 ⟨rfl, hb⟩; refine ⟨_, rfl, ?_⟩; replace HB := lB hb; (try clear hb); (try clear hb2); (try clear hk); (try clear hi)) | (go_at_call 71; (with_reducible refine (spec_l01In.calls a2 0 3 true _ A8.out).mono ?_); rintro e w' ⟨rfl, ⟨nd, rfl⟩⟩))
    go_ret
    exact finA blA
   ·
    replace c9 := Bool.eq_false_iff.mpr c9
    subst c9
    rw [if_neg (show ¬ (false = true) by decide)] at H
    try dsimp only at H
    obtain rfl := Option.some.inj H
    go_enter Try.func101, Try.ntmps101
    go_wp2_with (first | ((with_reducible refine gate_callee (f := 136) rfl ?_); refine goesL_ (some 9) rfl rfl Try.func136 (by kernel_rfl) rfl #[.int .i64 a0] rfl hA ?_; (with_reducible refine (spec_l01Prime.calls a0 true _ A4.out).mono ?_); rintro e w' ⟨rfl, ⟨nd, rfl⟩⟩; refine ⟨_, rfl, ?_⟩) | ((with_reducible refine gate_callee (f := 138) rfl ?_); refine goesL_ (some 12) rfl rfl Try.func138 (by kernel_rfl) rfl #[.slice A1 l1.length c1, .int .i64 6] rfl hA ?_; (with_reducible refine (spec_l06Movers.calls k _ _ l1 6 t1029 _ ?side1 ?side2 A6.out).mono ?_); (case side1 => repeat (first | exact HR1.out | (with_reducible refine Kd.C_alloc ?_ _) | (with_reducible refine Kd.C_drewN ?_ _) | (with_reducible refine Kd.C_drew ?_))); (case side2 => exact HC1.out); rintro e w11 ⟨rfl, hb⟩; refine ⟨_, rfl, ?_⟩; replace HB := lB hb; (try clear hb); (try clear hb2); (try clear hk); (try clear hi)) | (go_at_call 71; (with_reducible refine (spec_l01In.calls a2 0 3 false _ A8.out).mono ?_); rintro e w' ⟨rfl, ⟨nd, rfl⟩⟩))
    go_ret
    exact finA blA
  ·
   rw [if_neg c7] at H
   have c7b0 : (t1029 == 0) = false := beq_eq_false_iff_ne.mpr c7
   have c7b1 : (t1029 != 0) = true := bne_iff_ne.mpr c7
   obtain rfl := Option.some.inj H
   go_enter Try.func101, Try.ntmps101
   go_wp2_with (first | ((with_reducible refine gate_callee (f := 136) rfl ?_); refine goesL_ (some 9) rfl rfl Try.func136 (by kernel_rfl) rfl #[.int .i64 a0] rfl hA ?_; (with_reducible refine (spec_l01Prime.calls a0 true _ A4.out).mono ?_); rintro e w' ⟨rfl, ⟨nd, rfl⟩⟩; refine ⟨_, rfl, ?_⟩) | ((with_reducible refine gate_callee (f := 138) rfl ?_); refine goesL_ (some 12) rfl rfl Try.func138 (by kernel_rfl) rfl #[.slice A1 l1.length c1, .int .i64 6] rfl hA ?_; (with_reducible refine (spec_l06Movers.calls k _ _ l1 6 t1029 _ ?side1 ?side2 A6.out).mono ?_); (case side1 => repeat (first | exact HR1.out | (with_reducible refine Kd.C_alloc ?_ _) | (with_reducible refine Kd.C_drewN ?_ _) | (with_reducible refine Kd.C_drew ?_))); (case side2 => exact HC1.out); rintro e w12 ⟨rfl, hb⟩; refine ⟨_, rfl, ?_⟩; replace HB := lB hb; (try clear hb); (try clear hb2); (try clear hk); (try clear hi)))
   go_ret
   exact finA blA
 ·
  replace c5 := Bool.eq_false_iff.mpr c5
  subst c5
  rw [if_neg (show ¬ (false = true) by decide)] at H
  try dsimp only at H
  obtain rfl := Option.some.inj H
  go_enter Try.func101, Try.ntmps101
  go_wp2_with (first | ((with_reducible refine gate_callee (f := 136) rfl ?_); refine goesL_ (some 9) rfl rfl Try.func136 (by kernel_rfl) rfl #[.int .i64 a0] rfl hA ?_; (with_reducible refine (spec_l01Prime.calls a0 false _ A4.out).mono ?_); rintro e w' ⟨rfl, ⟨nd, rfl⟩⟩; refine ⟨_, rfl, ?_⟩))
  go_ret
  exact finA blA
/-! ### spec_l04Inverse: function 103 -/
def spec_l04Inverse.f (k : Nat) (a0_0 : Int) (a0_1 : Int) (a0_2 : Int) (a0_3 : Int) : Option (Int × Int × Int × Int) := (spec_l04Reduce.f k a0_3 (wrap64 (-a0_1)) (wrap64 (-a0_2)) a0_0).bind fun bt1053 => (some (bt1053.1, bt1053.2.1, bt1053.2.2.1, bt1053.2.2.2.1))
theorem spec_l04Inverse.mono : ∀ a0 a1 a2 a3 k, LeO (spec_l04Inverse.f k a0 a1 a2 a3) (spec_l04Inverse.f (k + 1) a0 a1 a2 a3) := by
 intro a0 a1 a2 a3 k
 unfold spec_l04Inverse.f
 repeat' first
   | (with_reducible exact spec_l04Reduce.mono _ _ _ _ _)
   | (with_reducible exact LeO.refl _)
   | (with_reducible exact LeO.none _)
   | (with_reducible refine LeO.ite ?_ ?_)
   | (with_reducible refine LeO.bind ?_ (fun _ => ?_))
set_option maxHeartbeats 8000000 in
set_option maxRecDepth 100000 in
theorem spec_l04Inverse.calls (k : Nat) (a0_0 : Int) (a0_1 : Int) (a0_2 : Int) (a0_3 : Int) (r1 : Int) (r2 : Int) (r3 : Int) (r4 : Int) (w : World) (h : spec_l04Inverse.f k a0_0 a0_1 a0_2 a0_3 = some (r1, r2, r3, r4)) :
  Calls Try.prog 103 #[.agg #[.int .i64 a0_0, .int .i64 a0_1, .int .i64 a0_2, .int .i64 a0_3]] w fun e w' => e = .returned (.agg #[.int .i64 r1, .int .i64 r2, .int .i64 r3, .int .i64 r4]) ∧ Below w.heap.size w w' := by
 have hu26 := Try.underlying26
 have hu22 := Try.underlying22
 have HB := Aside0.mk (Below.refl w.heap.size w)
 have H := h
 unfold spec_l04Inverse.f at H
 clear h
 replace H := bS H
 obtain ⟨⟨t1053, t1054, t1055, t1056, t1057⟩, A2, H⟩ := H
 try dsimp only at H
 simp only [Option.some.injEq, Prod.mk.injEq] at H
 obtain ⟨rfl, rfl, rfl, rfl⟩ := H
 go_enter Try.func103, Try.ntmps103
 go_wp2_with (first | ((with_reducible refine gate_dst (N := 1) rfl ?_); refine box_event ?hg (N := 1) ?hd (cs := #[.int .i64 a0_0, .int .i64 a0_1, .int .i64 a0_2, .int .i64 a0_3]) (t := 26) ?hr ?_; (case hd => rfl); (case hg => rfl); (case hr => first | (go_simp; done) | (go_simp; rfl)); intro gb1051 hg w3 hbox hb; have BK1051 := Aside0.mk (hbox); have GW1051 := sA hg; have GE1051 := sA hg; replace HB := lB hb; clear hb hbox hg) | ((with_reducible refine gate_dst (N := 2) rfl ?_); refine box_event ?hg (N := 2) ?hd (cs := #[.int .i64 0, .int .i64 0, .int .i64 0, .int .i64 0]) (t := 26) ?hr ?_; (case hd => rfl); (case hg => rfl); (case hr => first | (go_simp; done) | (go_simp; rfl)); intro gb1052 hg w4 hbox hb; have BK1052 := Aside0.mk (hbox); have GW1052 := sA hg; have GE1052 := sA hg; have NB1051_1052 := nA hg BK1051; have NB1052_1051 := nB hg BK1051; replace BK1051 := kB BK1051 hb; replace HB := lB hb; clear hb hbox hg; have hnb5 := NB1051_1052.out; have hnc5 := NB1052_1051.out; obtain ⟨hcz6_0, hcz6_1, hcz6_2, hcz6_3, hfz6_0, hfz6_1, hfz6_2, hfz6_3⟩ := cz4 BK1051) | ((with_reducible refine gate_callee (f := 140) rfl ?_); refine goesL_ (some 23) rfl rfl Try.func140 (by kernel_rfl) rfl #[.agg #[.int .i64 a0_3, .int .i64 (wrap64 (-a0_1)), .int .i64 (wrap64 (-a0_2)), .int .i64 a0_0]] rfl hA ?_; (with_reducible refine (spec_l04Reduce.calls k a0_3 (wrap64 (-a0_1)) (wrap64 (-a0_2)) a0_0 t1053 t1054 t1055 t1056 t1057 _ A2.out).mono ?_); rintro e w7 ⟨rfl, hb⟩; refine ⟨_, rfl, ?_⟩; replace BK1051 := kB BK1051 hb; replace BK1052 := kB BK1052 hb; replace HB := lB hb; (try clear hb); (try clear hb2); (try clear hk); (try clear hi)) | ((with_reducible refine gate_dst (N := 3) rfl ?_); refine box_event ?hg (N := 3) ?hd (cs := #[.int .i64 0, .int .i64 0, .int .i64 0, .int .i64 0]) (t := 26) ?hr ?_; (case hd => rfl); (case hg => rfl); (case hr => first | (go_simp; done) | (go_simp; rfl)); intro gb1058 hg w8 hbox hb; have BK1058 := Aside0.mk (hbox); have GW1058 := sA hg; have GE1058 := sA hg; have NB1051_1058 := nA hg BK1051; have NB1058_1051 := nB hg BK1051; have NB1052_1058 := nA hg BK1052; have NB1058_1052 := nB hg BK1052; replace BK1051 := kB BK1051 hb; replace BK1052 := kB BK1052 hb; replace HB := lB hb; clear hb hbox hg; have hnb9 := NB1058_1051.out; have hnc9 := NB1051_1058.out; have hnb10 := NB1058_1052.out; have hnc10 := NB1052_1058.out; obtain ⟨hcz11_0, hcz11_1, hcz11_2, hcz11_3, hfz11_0, hfz11_1, hfz11_2, hfz11_3⟩ := cz4 BK1058; obtain ⟨hcz12_0, hcz12_1, hcz12_2, hcz12_3, hfz12_0, hfz12_1, hfz12_2, hfz12_3⟩ := cz4 BK1052))
 refine bodyPost_ret (results_cell_row rfl _ _ gb1052 26 #[.int .i64 t1053, .int .i64 t1054, .int .i64 t1055, .int .i64 t1056] (0, 0) _ rfl (by refine dr ?_; refine blk_put (cs := #[.int .i64 t1053, .int .i64 t1054, .int .i64 t1055, .int .i64 0]) ?_ 3 _ rfl; refine dr ?_; refine blk_put (cs := #[.int .i64 t1053, .int .i64 t1054, .int .i64 0, .int .i64 0]) ?_ 2 _ rfl; refine dr ?_; refine blk_put (cs := #[.int .i64 t1053, .int .i64 0, .int .i64 0, .int .i64 0]) ?_ 1 _ rfl; refine dr ?_; refine blk_put (cs := #[.int .i64 0, .int .i64 0, .int .i64 0, .int .i64 0]) ?_ 0 _ rfl; refine dr ?_; refine blk_far ?_ NB1052_1058.out _; refine dr ?_; refine blk_far ?_ NB1052_1058.out _; refine dr ?_; refine blk_far ?_ NB1052_1058.out _; refine dr ?_; refine blk_far ?_ NB1052_1058.out _; exact bkA BK1052) Try.underlying26 rfl (by kernel_rfl)) rfl ?_
 exact finA blA
/-! ### laws_eqMatrixS: function 43 -/
def laws_eqMatrixS.l0 : Nat → List (S26) → List (S26) → Int → Option (Bool)
 | 0, _, _, _ => none
 | k + 1, x0, x1, x5 => if x5 < (x0.length : Int) then (if 0 ≤ x5 then (if x5 < (x1.length : Int) then ((laws_eqMatrix.f ((rd_T26 x0 x5).f0.f0) ((rd_T26 x0 x5).f0.f1) ((rd_T26 x0 x5).f1.f0) ((rd_T26 x0 x5).f1.f1) ((rd_T26 x1 x5).f0.f0) ((rd_T26 x1 x5).f0.f1) ((rd_T26 x1 x5).f1.f0) ((rd_T26 x1 x5).f1.f1)).bind fun t1144 => (if t1144 = true then (laws_eqMatrixS.l0 k x0 x1 (wrap64 (x5 + 1))) else (some false))) else (none)) else (none)) else (some true)
def laws_eqMatrixS.f (k : Nat) (l0 : List (S26)) (l1 : List (S26)) : Option (Bool) := if (l0.length : Int) = (l1.length : Int) then (laws_eqMatrixS.l0 k l0 l1 0) else (some false)
theorem laws_eqMatrixS.mono_l : ∀ k, (∀ y0 y1 y2, LeO (laws_eqMatrixS.l0 k y0 y1 y2) (laws_eqMatrixS.l0 (k + 1) y0 y1 y2))
 | 0 => fun _ _ _ r h => by simp [laws_eqMatrixS.l0] at h
 | k + 1 => by
  have ih0 := laws_eqMatrixS.mono_l k
  ·
   intro y0 y1 y2
   unfold laws_eqMatrixS.l0
   repeat' first
   | (with_reducible exact ih0 _ _ _)
   | (with_reducible exact LeO.refl _)
   | (with_reducible exact LeO.none _)
   | (with_reducible refine LeO.ite ?_ ?_)
   | (with_reducible refine LeO.bind ?_ (fun _ => ?_))
theorem laws_eqMatrixS.mono : ∀ a0 a1 k, LeO (laws_eqMatrixS.f k a0 a1) (laws_eqMatrixS.f (k + 1) a0 a1) := by
 intro a0 a1 k
 have ih0 := laws_eqMatrixS.mono_l k
 unfold laws_eqMatrixS.f
 repeat' first
   | (with_reducible exact ih0 _ _ _)
   | (with_reducible exact LeO.refl _)
   | (with_reducible exact LeO.none _)
   | (with_reducible refine LeO.ite ?_ ?_)
   | (with_reducible refine LeO.bind ?_ (fun _ => ?_))
def laws_eqMatrixS.T6 : Bool × List (List Nat × List Nat) := (true, [([], []), ([], []), ([0, 1], [0, 1]), ([2], [2]), ([], []), ([], []), ([4, 5], [4, 5]), ([6], [6]), ([3, 7], [3, 7]), ([8], [8])])
def laws_eqMatrixS.B6 : List Nat := [0, 0, 3, 7, 0, 0, 48, 112, 255, 511]
theorem laws_eqMatrixS.tab6 : rtab .any (opsOf Try.f43 6) = laws_eqMatrixS.T6 := by kernel_rfl
theorem laws_eqMatrixS.bits6 : waitsOk laws_eqMatrixS.T6.2 laws_eqMatrixS.B6 = true := by kernel_rfl
set_option maxHeartbeats 8000000 in
set_option maxRecDepth 100000 in
theorem laws_eqMatrixS.calls (k : Nat) (A0 : Option Addr) (c0 : Nat) (l0 : List (S26)) (A1 : Option Addr) (c1 : Nat) (l1 : List (S26)) (r : Bool) (w : World) (hr0 : Kd.C k26 w A0 l0.length l0) (hc0 : l0.length ≤ c0) (hr1 : Kd.C k26 w A1 l1.length l1) (hc1 : l1.length ≤ c1) (h : laws_eqMatrixS.f k l0 l1 = some r) :
  Calls Try.prog 43 #[.slice A0 l0.length c0, .slice A1 l1.length c1] w fun e w' => e = .returned (.bool r) ∧ Below w.heap.size w w' := by
 have hu26 := Try.underlying26
 have HR0 := Aside0.mk hr0
 have HC0 := Aside0.mk hc0
 clear hr0 hc0
 have HR1 := Aside0.mk hr1
 have HC1 := Aside0.mk hc1
 clear hr1 hc1
 have HB := Aside0.mk (Below.refl w.heap.size w)
 have H := h
 unfold laws_eqMatrixS.f at H
 clear h
 by_cases c3 : (l0.length : Int) = (l1.length : Int)
 ·
  rw [if_pos c3] at H
  have c3b0 : ((l0.length : Int) == (l1.length : Int)) = true := beq_iff_eq.mpr c3
  have c3b1 : ((l0.length : Int) != (l1.length : Int)) = false := bne_eq_false_iff_eq.mpr c3
  have c3b2 : (l0.length == l1.length) = true := by first | simpa using c3 | (simp at c3 ⊢; omega)
  clear c3
  have H' := Aside0.mk H
  clear H
  go_enter Try.func43, Try.ntmps43
  go_wp2
  go_loopg [5] k (fun kq v5 w' => ∃ (x5_1 : Int), v5 = .int .i64 x5_1 ∧ Aside0 (laws_eqMatrixS.l0 kq l0 l1 x5_1 = some r) ∧ Aside0 (kq ≤ k) ∧ Aside0 (Below w.heap.size w w'))
  case atStart => exact ⟨(0), hB, H', ⟨Nat.le_refl _⟩, ⟨blA⟩⟩
  case round =>
   clear H'
   try clear c1
   try clear c3
   try clear c3b0
   try clear c3b1
   try clear c3b2
   obtain ⟨x5_1, rfl, HA, HK1, HB⟩ := hrel
   cases gk with
   | zero => exact absurd HA.out (by simp [laws_eqMatrixS.l0])
   | succ k1 =>
    have H := HA.out
    clear HA
    simp only [laws_eqMatrixS.l0] at H
    by_cases c4 : x5_1 < (l0.length : Int)
    ·
     rw [if_pos c4] at H
     have c4b0 := decide_eq_true c4
     clear c4
     by_cases c5 : 0 ≤ x5_1
     ·
      rw [if_pos c5] at H
      have c5b0 := decide_eq_true c5
      clear c5
      by_cases c6 : x5_1 < (l1.length : Int)
      ·
       rw [if_pos c6] at H
       have c6b0 := decide_eq_true c6
       clear c6
       replace H := bS H
       obtain ⟨t1144, A7, H⟩ := H
       try dsimp only at H
       by_cases c8 : t1144 = true
       ·
        subst c8
        rw [if_pos rfl] at H
        try dsimp only at H
        have H' := Aside0.mk H
        clear H
        try go_wp2
        have n0_ := Aside0.mk (below_drew1 HB.out)
        clear HB
        have HB := n0_
        clear n0_
        have p1142 : 0 ≤ (x5_1 : Int) := dA
        have q1142 : x5_1 < (l0.length : Int) := dA
        obtain ⟨ad1142, e1142, hx1142_0, hx1142_1, hx1142_2, hx1142_3⟩ := at_T26 HR0.out x5_1 p1142 q1142
        have hw1142_3 := hx1142_3
        have hw1142_2 := hx1142_2
        have hw1142_1 := hx1142_1
        have hw1142_0 := hx1142_0
        cases e1142
        replace hx1142_0 := (HB.out.cell (World.block_lt_of_cell? w _ hx1142_0)).trans hx1142_0
        replace hx1142_1 := (HB.out.cell (World.block_lt_of_cell? w _ hx1142_1)).trans hx1142_1
        replace hx1142_2 := (HB.out.cell (World.block_lt_of_cell? w _ hx1142_2)).trans hx1142_2
        replace hx1142_3 := (HB.out.cell (World.block_lt_of_cell? w _ hx1142_3)).trans hx1142_3
        replace p1142 := eq_true p1142
        replace q1142 := eq_true q1142
        have p1143 : 0 ≤ (x5_1 : Int) := dA
        have q1143 : x5_1 < (l1.length : Int) := dA
        obtain ⟨ad1143, e1143, hx1143_0, hx1143_1, hx1143_2, hx1143_3⟩ := at_T26 HR1.out x5_1 p1143 q1143
        have hw1143_3 := hx1143_3
        have hw1143_2 := hx1143_2
        have hw1143_1 := hx1143_1
        have hw1143_0 := hx1143_0
        cases e1143
        replace hx1143_0 := (HB.out.cell (World.block_lt_of_cell? w _ hx1143_0)).trans hx1143_0
        replace hx1143_1 := (HB.out.cell (World.block_lt_of_cell? w _ hx1143_1)).trans hx1143_1
        replace hx1143_2 := (HB.out.cell (World.block_lt_of_cell? w _ hx1143_2)).trans hx1143_2
        replace hx1143_3 := (HB.out.cell (World.block_lt_of_cell? w _ hx1143_3)).trans hx1143_3
        replace p1143 := eq_true p1143
        replace q1143 := eq_true q1143
        refine start_ (n := 10) (S := fun w' => w'.cell? (ad1142.add ((x5_1).toNat * 4)) = some (.int .i64 ((rd_T26 l0 x5_1).f0.f0)) ∧ w'.cell? ⟨(ad1142.add ((x5_1).toNat * 4)).block, (ad1142.add ((x5_1).toNat * 4)).off + 1, none⟩ = some (.int .i64 ((rd_T26 l0 x5_1).f0.f1)) ∧ w'.cell? ⟨(ad1142.add ((x5_1).toNat * 4)).block, (ad1142.add ((x5_1).toNat * 4)).off + 2, none⟩ = some (.int .i64 ((rd_T26 l0 x5_1).f1.f0)) ∧ w'.cell? ⟨(ad1142.add ((x5_1).toNat * 4)).block, (ad1142.add ((x5_1).toNat * 4)).off + 3, none⟩ = some (.int .i64 ((rd_T26 l0 x5_1).f1.f1)) ∧ w'.cell? (ad1143.add ((x5_1).toNat * 4)) = some (.int .i64 ((rd_T26 l1 x5_1).f0.f0)) ∧ w'.cell? ⟨(ad1143.add ((x5_1).toNat * 4)).block, (ad1143.add ((x5_1).toNat * 4)).off + 1, none⟩ = some (.int .i64 ((rd_T26 l1 x5_1).f0.f1)) ∧ w'.cell? ⟨(ad1143.add ((x5_1).toNat * 4)).block, (ad1143.add ((x5_1).toNat * 4)).off + 2, none⟩ = some (.int .i64 ((rd_T26 l1 x5_1).f1.f0)) ∧ w'.cell? ⟨(ad1143.add ((x5_1).toNat * 4)).block, (ad1143.add ((x5_1).toNat * 4)).off + 3, none⟩ = some (.int .i64 ((rd_T26 l1 x5_1).f1.f1))) (ds := []) #[Z, Z, Z, Z, Z, Z, Z, Z, Z, Z] (by kernel_rfl) rfl rfl ⟨((HB.out.cell (World.block_lt_of_cell? w _ hw1142_0)).trans hw1142_0), ((HB.out.cell (World.block_lt_of_cell? w _ hw1142_1)).trans hw1142_1), ((HB.out.cell (World.block_lt_of_cell? w _ hw1142_2)).trans hw1142_2), ((HB.out.cell (World.block_lt_of_cell? w _ hw1142_3)).trans hw1142_3), ((HB.out.cell (World.block_lt_of_cell? w _ hw1143_0)).trans hw1143_0), ((HB.out.cell (World.block_lt_of_cell? w _ hw1143_1)).trans hw1143_1), ((HB.out.cell (World.block_lt_of_cell? w _ hw1143_2)).trans hw1143_2), ((HB.out.cell (World.block_lt_of_cell? w _ hw1143_3)).trans hw1143_3)⟩ (fun hHeld => ?_); refine with_tabW laws_eqMatrixS.tab6 laws_eqMatrixS.bits6 (fun HT_ HW_ => ?_)
        generalize wr.drew = w9 at HB hx1142_0 hx1142_1 hx1142_2 hx1142_3 hx1143_0 hx1143_1 hx1143_2 hx1143_3 hHeld ⊢
        refine puA (i := 0) (N := some 17) #[Y, Z, Z, Z, Z, Z, Z, Z, Z, Z] rfl rfl HT_ ?_
        refine puA (i := 1) (N := some 18) #[Y, Y, Z, Z, Z, Z, Z, Z, Z, Z] rfl rfl HT_ ?_
        refine puA (i := 2) (N := some 19) #[Y, Y, Y, Z, Z, Z, Z, Z, Z, Z] rfl rfl HT_ ?_
        refine puA (i := 4) (N := some 21) #[Y, Y, Y, Z, Y, Z, Z, Z, Z, Z] rfl rfl HT_ ?_
        refine puA (i := 5) (N := some 22) #[Y, Y, Y, Z, Y, Y, Z, Z, Z, Z] rfl rfl HT_ ?_
        refine puA (i := 6) (N := some 23) #[Y, Y, Y, Z, Y, Y, Y, Z, Z, Z] rfl rfl HT_ ?_
        refine take_ (i := 3) (N := some 20) (v := ?_) (a' := ?_) #[Y, Y, Y, Y, Y, Y, Y, Z, Z, Z] rfl rfl (take_ofW HT_.out HW_.out (by kernel_rfl)) (fun _ _ _ h => h) (Or.inl ⟨by rfl, ?_⟩) hHeld ?_ ?_
        rotate_left
        ·
         rintro w' ⟨s0, s1, s2, s3, s4, s5, s6, s7⟩
         go_simp
         with_reducible rfl
        rotate_left
        ·
         simp only [pA]
         rfl
        refine take_ (i := 7) (N := some 24) (v := ?_) (a' := ?_) #[Y, Y, Y, Y, Y, Y, Y, Y, Z, Z] rfl rfl (take_ofW HT_.out HW_.out (by kernel_rfl)) (fun _ _ _ h => h) (Or.inl ⟨by rfl, ?_⟩) hHeld ?_ ?_
        rotate_left
        ·
         rintro w' ⟨s0, s1, s2, s3, s4, s5, s6, s7⟩
         go_simp
         with_reducible rfl
        rotate_left
        ·
         simp only [pA]
         rfl
        refine one_ (i := 8) (N := some 25) #[Y, Y, Y, Y, Y, Y, Y, Y, Y, Z] rfl rfl (one_of HT_.out (by kernel_rfl)) (by decide) (fun K hK => ?_)
        refine goes_ Try.func107 (by kernel_rfl) rfl #[.agg #[.int .i64 ((rd_T26 l0 x5_1).f0.f0), .int .i64 ((rd_T26 l0 x5_1).f0.f1), .int .i64 ((rd_T26 l0 x5_1).f1.f0), .int .i64 ((rd_T26 l0 x5_1).f1.f1)], .agg #[.int .i64 ((rd_T26 l1 x5_1).f0.f0), .int .i64 ((rd_T26 l1 x5_1).f0.f1), .int .i64 ((rd_T26 l1 x5_1).f1.f0), .int .i64 ((rd_T26 l1 x5_1).f1.f1)]] (by rfl) rfl rfl hA ?_
        with_reducible refine (laws_eqMatrix.calls ((rd_T26 l0 x5_1).f0.f0) ((rd_T26 l0 x5_1).f0.f1) ((rd_T26 l0 x5_1).f1.f0) ((rd_T26 l0 x5_1).f1.f1) ((rd_T26 l1 x5_1).f0.f0) ((rd_T26 l1 x5_1).f0.f1) ((rd_T26 l1 x5_1).f1.f0) ((rd_T26 l1 x5_1).f1.f1) true _ A7.out).mono ?_
        rintro e w10 ⟨rfl, hb⟩
        refine ⟨_, rfl, ?_⟩
        replace HB := lB hb
        (try clear hb)
        (try clear hb2)
        (try clear hk)
        (try clear hi)
        refine hK.out _ _ ⟨((HB.out.cell (World.block_lt_of_cell? w _ hw1142_0)).trans hw1142_0), ((HB.out.cell (World.block_lt_of_cell? w _ hw1142_1)).trans hw1142_1), ((HB.out.cell (World.block_lt_of_cell? w _ hw1142_2)).trans hw1142_2), ((HB.out.cell (World.block_lt_of_cell? w _ hw1142_3)).trans hw1142_3), ((HB.out.cell (World.block_lt_of_cell? w _ hw1143_0)).trans hw1143_0), ((HB.out.cell (World.block_lt_of_cell? w _ hw1143_1)).trans hw1143_1), ((HB.out.cell (World.block_lt_of_cell? w _ hw1143_2)).trans hw1143_2), ((HB.out.cell (World.block_lt_of_cell? w _ hw1143_3)).trans hw1143_3)⟩ (fun hHeld => ?_)
        clear hK K
        refine norm_ (a' := ?_) ?_ ?_
        rotate_left
        ·
         show Act.put _ (some 25) _ = _
         simp only [pA]
         rfl
        refine puA (i := 9) (N := some 26) #[Y, Y, Y, Y, Y, Y, Y, Y, Y, Y] rfl rfl HT_ ?_
        refine done_ (done_of HT_.out (by kernel_rfl)) ?_
        try go_wp2
        go_roundg k1
        case measure => have := HK1.out; omega
        case rel => exact ⟨(wrap64 (x5_1 + 1)), hB, H', ⟨by have := HK1.out; omega⟩, ⟨blA⟩⟩
       ·
        replace c8 := Bool.eq_false_iff.mpr c8
        subst c8
        rw [if_neg (show ¬ (false = true) by decide)] at H
        try dsimp only at H
        obtain rfl := Option.some.inj H
        try go_wp2
        have n0_ := Aside0.mk (below_drew1 HB.out)
        clear HB
        have HB := n0_
        clear n0_
        have p1142 : 0 ≤ (x5_1 : Int) := dA
        have q1142 : x5_1 < (l0.length : Int) := dA
        obtain ⟨ad1142, e1142, hx1142_0, hx1142_1, hx1142_2, hx1142_3⟩ := at_T26 HR0.out x5_1 p1142 q1142
        have hw1142_3 := hx1142_3
        have hw1142_2 := hx1142_2
        have hw1142_1 := hx1142_1
        have hw1142_0 := hx1142_0
        cases e1142
        replace hx1142_0 := (HB.out.cell (World.block_lt_of_cell? w _ hx1142_0)).trans hx1142_0
        replace hx1142_1 := (HB.out.cell (World.block_lt_of_cell? w _ hx1142_1)).trans hx1142_1
        replace hx1142_2 := (HB.out.cell (World.block_lt_of_cell? w _ hx1142_2)).trans hx1142_2
        replace hx1142_3 := (HB.out.cell (World.block_lt_of_cell? w _ hx1142_3)).trans hx1142_3
        replace p1142 := eq_true p1142
        replace q1142 := eq_true q1142
        have p1143 : 0 ≤ (x5_1 : Int) := dA
        have q1143 : x5_1 < (l1.length : Int) := dA
        obtain ⟨ad1143, e1143, hx1143_0, hx1143_1, hx1143_2, hx1143_3⟩ := at_T26 HR1.out x5_1 p1143 q1143
        have hw1143_3 := hx1143_3
        have hw1143_2 := hx1143_2
        have hw1143_1 := hx1143_1
        have hw1143_0 := hx1143_0
        cases e1143
        replace hx1143_0 := (HB.out.cell (World.block_lt_of_cell? w _ hx1143_0)).trans hx1143_0
        replace hx1143_1 := (HB.out.cell (World.block_lt_of_cell? w _ hx1143_1)).trans hx1143_1
        replace hx1143_2 := (HB.out.cell (World.block_lt_of_cell? w _ hx1143_2)).trans hx1143_2
        replace hx1143_3 := (HB.out.cell (World.block_lt_of_cell? w _ hx1143_3)).trans hx1143_3
        replace p1143 := eq_true p1143
        replace q1143 := eq_true q1143
        refine start_ (n := 10) (S := fun w' => w'.cell? (ad1142.add ((x5_1).toNat * 4)) = some (.int .i64 ((rd_T26 l0 x5_1).f0.f0)) ∧ w'.cell? ⟨(ad1142.add ((x5_1).toNat * 4)).block, (ad1142.add ((x5_1).toNat * 4)).off + 1, none⟩ = some (.int .i64 ((rd_T26 l0 x5_1).f0.f1)) ∧ w'.cell? ⟨(ad1142.add ((x5_1).toNat * 4)).block, (ad1142.add ((x5_1).toNat * 4)).off + 2, none⟩ = some (.int .i64 ((rd_T26 l0 x5_1).f1.f0)) ∧ w'.cell? ⟨(ad1142.add ((x5_1).toNat * 4)).block, (ad1142.add ((x5_1).toNat * 4)).off + 3, none⟩ = some (.int .i64 ((rd_T26 l0 x5_1).f1.f1)) ∧ w'.cell? (ad1143.add ((x5_1).toNat * 4)) = some (.int .i64 ((rd_T26 l1 x5_1).f0.f0)) ∧ w'.cell? ⟨(ad1143.add ((x5_1).toNat * 4)).block, (ad1143.add ((x5_1).toNat * 4)).off + 1, none⟩ = some (.int .i64 ((rd_T26 l1 x5_1).f0.f1)) ∧ w'.cell? ⟨(ad1143.add ((x5_1).toNat * 4)).block, (ad1143.add ((x5_1).toNat * 4)).off + 2, none⟩ = some (.int .i64 ((rd_T26 l1 x5_1).f1.f0)) ∧ w'.cell? ⟨(ad1143.add ((x5_1).toNat * 4)).block, (ad1143.add ((x5_1).toNat * 4)).off + 3, none⟩ = some (.int .i64 ((rd_T26 l1 x5_1).f1.f1))) (ds := []) #[Z, Z, Z, Z, Z, Z, Z, Z, Z, Z] (by kernel_rfl) rfl rfl ⟨((HB.out.cell (World.block_lt_of_cell? w _ hw1142_0)).trans hw1142_0), ((HB.out.cell (World.block_lt_of_cell? w _ hw1142_1)).trans hw1142_1), ((HB.out.cell (World.block_lt_of_cell? w _ hw1142_2)).trans hw1142_2), ((HB.out.cell (World.block_lt_of_cell? w _ hw1142_3)).trans hw1142_3), ((HB.out.cell (World.block_lt_of_cell? w _ hw1143_0)).trans hw1143_0), ((HB.out.cell (World.block_lt_of_cell? w _ hw1143_1)).trans hw1143_1), ((HB.out.cell (World.block_lt_of_cell? w _ hw1143_2)).trans hw1143_2), ((HB.out.cell (World.block_lt_of_cell? w _ hw1143_3)).trans hw1143_3)⟩ (fun hHeld => ?_); refine with_tabW laws_eqMatrixS.tab6 laws_eqMatrixS.bits6 (fun HT_ HW_ => ?_)
        generalize wr.drew = w11 at HB hx1142_0 hx1142_1 hx1142_2 hx1142_3 hx1143_0 hx1143_1 hx1143_2 hx1143_3 hHeld ⊢
        refine puA (i := 0) (N := some 17) #[Y, Z, Z, Z, Z, Z, Z, Z, Z, Z] rfl rfl HT_ ?_
        refine puA (i := 1) (N := some 18) #[Y, Y, Z, Z, Z, Z, Z, Z, Z, Z] rfl rfl HT_ ?_
        refine puA (i := 2) (N := some 19) #[Y, Y, Y, Z, Z, Z, Z, Z, Z, Z] rfl rfl HT_ ?_
        refine puA (i := 4) (N := some 21) #[Y, Y, Y, Z, Y, Z, Z, Z, Z, Z] rfl rfl HT_ ?_
        refine puA (i := 5) (N := some 22) #[Y, Y, Y, Z, Y, Y, Z, Z, Z, Z] rfl rfl HT_ ?_
        refine puA (i := 6) (N := some 23) #[Y, Y, Y, Z, Y, Y, Y, Z, Z, Z] rfl rfl HT_ ?_
        refine take_ (i := 3) (N := some 20) (v := ?_) (a' := ?_) #[Y, Y, Y, Y, Y, Y, Y, Z, Z, Z] rfl rfl (take_ofW HT_.out HW_.out (by kernel_rfl)) (fun _ _ _ h => h) (Or.inl ⟨by rfl, ?_⟩) hHeld ?_ ?_
        rotate_left
        ·
         rintro w' ⟨s0, s1, s2, s3, s4, s5, s6, s7⟩
         go_simp
         with_reducible rfl
        rotate_left
        ·
         simp only [pA]
         rfl
        refine take_ (i := 7) (N := some 24) (v := ?_) (a' := ?_) #[Y, Y, Y, Y, Y, Y, Y, Y, Z, Z] rfl rfl (take_ofW HT_.out HW_.out (by kernel_rfl)) (fun _ _ _ h => h) (Or.inl ⟨by rfl, ?_⟩) hHeld ?_ ?_
        rotate_left
        ·
         rintro w' ⟨s0, s1, s2, s3, s4, s5, s6, s7⟩
         go_simp
         with_reducible rfl
        rotate_left
        ·
         simp only [pA]
         rfl
        refine one_ (i := 8) (N := some 25) #[Y, Y, Y, Y, Y, Y, Y, Y, Y, Z] rfl rfl (one_of HT_.out (by kernel_rfl)) (by decide) (fun K hK => ?_)
        refine goes_ Try.func107 (by kernel_rfl) rfl #[.agg #[.int .i64 ((rd_T26 l0 x5_1).f0.f0), .int .i64 ((rd_T26 l0 x5_1).f0.f1), .int .i64 ((rd_T26 l0 x5_1).f1.f0), .int .i64 ((rd_T26 l0 x5_1).f1.f1)], .agg #[.int .i64 ((rd_T26 l1 x5_1).f0.f0), .int .i64 ((rd_T26 l1 x5_1).f0.f1), .int .i64 ((rd_T26 l1 x5_1).f1.f0), .int .i64 ((rd_T26 l1 x5_1).f1.f1)]] (by rfl) rfl rfl hA ?_
        with_reducible refine (laws_eqMatrix.calls ((rd_T26 l0 x5_1).f0.f0) ((rd_T26 l0 x5_1).f0.f1) ((rd_T26 l0 x5_1).f1.f0) ((rd_T26 l0 x5_1).f1.f1) ((rd_T26 l1 x5_1).f0.f0) ((rd_T26 l1 x5_1).f0.f1) ((rd_T26 l1 x5_1).f1.f0) ((rd_T26 l1 x5_1).f1.f1) false _ A7.out).mono ?_
        rintro e w12 ⟨rfl, hb⟩
        refine ⟨_, rfl, ?_⟩
        replace HB := lB hb
        (try clear hb)
        (try clear hb2)
        (try clear hk)
        (try clear hi)
        refine hK.out _ _ ⟨((HB.out.cell (World.block_lt_of_cell? w _ hw1142_0)).trans hw1142_0), ((HB.out.cell (World.block_lt_of_cell? w _ hw1142_1)).trans hw1142_1), ((HB.out.cell (World.block_lt_of_cell? w _ hw1142_2)).trans hw1142_2), ((HB.out.cell (World.block_lt_of_cell? w _ hw1142_3)).trans hw1142_3), ((HB.out.cell (World.block_lt_of_cell? w _ hw1143_0)).trans hw1143_0), ((HB.out.cell (World.block_lt_of_cell? w _ hw1143_1)).trans hw1143_1), ((HB.out.cell (World.block_lt_of_cell? w _ hw1143_2)).trans hw1143_2), ((HB.out.cell (World.block_lt_of_cell? w _ hw1143_3)).trans hw1143_3)⟩ (fun hHeld => ?_)
        clear hK K
        refine norm_ (a' := ?_) ?_ ?_
        rotate_left
        ·
         show Act.put _ (some 25) _ = _
         simp only [pA]
         rfl
        refine puA (i := 9) (N := some 26) #[Y, Y, Y, Y, Y, Y, Y, Y, Y, Y] rfl rfl HT_ ?_
        refine done_ (done_of HT_.out (by kernel_rfl)) ?_
        try go_wp2
        go_ret
        exact finA blA
      ·
       rw [if_neg c6] at H
       exact absurd H (by simp)
     ·
      rw [if_neg c5] at H
      exact absurd H (by simp)
    ·
     rw [if_neg c4] at H
     have c4b0 := decide_eq_false c4
     clear c4
     obtain rfl := Option.some.inj H
     go_wp2
     go_ret
     exact finA blA
 ·
  rw [if_neg c3] at H
  have c3b0 : ((l0.length : Int) == (l1.length : Int)) = false := beq_eq_false_iff_ne.mpr c3
  have c3b1 : ((l0.length : Int) != (l1.length : Int)) = true := bne_iff_ne.mpr c3
  have c3b2 : (l0.length == l1.length) = false := by first | simpa using c3 | (simp at c3 ⊢; omega)
  obtain rfl := Option.some.inj H
  go_enter Try.func43, Try.ntmps43
  go_wp2
  go_ret
  exact finA blA
/-! ### spec_l02Distance: function 102 -/
def spec_l02Distance.f (k : Nat) (a0 : Int) (a1_0 : Int) (a1_1 : Int) (a1_2 : Int) (a2_0 : Int) (a2_1 : Int) (a2_2 : Int) : Option (Int) := (spec_l02Join.f k a0 a1_0 a1_1 a1_2 a2_0 a2_1 a2_2).bind fun t128 => (some (wrap64 ((wrap64 (a1_0 + a2_0)) - (wrap64 (2 * t128)))))
theorem spec_l02Distance.mono : ∀ a0 a1 a2 a3 a4 a5 a6 k, LeO (spec_l02Distance.f k a0 a1 a2 a3 a4 a5 a6) (spec_l02Distance.f (k + 1) a0 a1 a2 a3 a4 a5 a6) := by
 intro a0 a1 a2 a3 a4 a5 a6 k
 unfold spec_l02Distance.f
 repeat' first
   | (with_reducible exact spec_l02Join.mono _ _ _ _ _ _ _ _)
   | (with_reducible exact LeO.refl _)
   | (with_reducible exact LeO.none _)
   | (with_reducible refine LeO.ite ?_ ?_)
   | (with_reducible refine LeO.bind ?_ (fun _ => ?_))
def spec_l02Distance.T1 : Bool × List (List Nat × List Nat) := (true, [([], []), ([0], [0]), ([], []), ([2], [2]), ([1, 3], [1, 3]), ([], []), ([], []), ([], []), ([5, 6, 7], [5, 6, 7]), ([8], [8]), ([4, 9], [4, 9]), ([10, 8, 0, 1, 2, 3, 4, 5, 6, 7, 8, 9, 10], [10])])
def spec_l02Distance.B1 : List Nat := [0, 1, 0, 4, 15, 0, 0, 0, 224, 480, 1023, 2047]
theorem spec_l02Distance.tab1 : rtab .any (opsOf Try.f102 1) = spec_l02Distance.T1 := by kernel_rfl
theorem spec_l02Distance.bits1 : waitsOk spec_l02Distance.T1.2 spec_l02Distance.B1 = true := by kernel_rfl
set_option maxHeartbeats 8000000 in
set_option maxRecDepth 100000 in
theorem spec_l02Distance.calls (k : Nat) (a0 : Int) (a1_0 : Int) (a1_1 : Int) (a1_2 : Int) (a2_0 : Int) (a2_1 : Int) (a2_2 : Int) (r : Int) (w : World) (h : spec_l02Distance.f k a0 a1_0 a1_1 a1_2 a2_0 a2_1 a2_2 = some r) :
  Calls Try.prog 102 #[.int .i64 a0, .agg #[.int .i64 a1_0, .int .i64 a1_1, .int .i64 a1_2], .agg #[.int .i64 a2_0, .int .i64 a2_1, .int .i64 a2_2]] w fun e w' => e = .returned (.int .i64 r) ∧ Below w.heap.size w w' := by
 have hu39 := Try.underlying39
 have HB := Aside0.mk (Below.refl w.heap.size w)
 have H := h
 unfold spec_l02Distance.f at H
 clear h
 replace H := bS H
 obtain ⟨t128, A4, H⟩ := H
 try dsimp only at H
 obtain rfl := Option.some.inj H
 go_enter Try.func102, Try.ntmps102
 try go_wp2_with (first | ((with_reducible refine gate_dst (N := 4) rfl ?_); refine box_event ?hg (N := 4) ?hd (cs := #[.int .i64 a1_0, .int .i64 a1_1, .int .i64 a1_2]) (t := 39) ?hr ?_; (case hd => rfl); (case hg => rfl); (case hr => first | (go_simp; done) | (go_simp; rfl)); intro gb126 hg w5 hbox hb; have n0_ := lB hb; have n1_ := Aside0.mk (hbox); have n2_ := sA hg; have n3_ := sA hg; clear HB; have HB := n0_; have BK126 := n1_; have GW126 := n2_; have GE126 := n3_; clear n0_ n1_ n2_ n3_; clear hb hbox hg) | ((with_reducible refine gate_dst (N := 5) rfl ?_); refine box_event ?hg (N := 5) ?hd (cs := #[.int .i64 a2_0, .int .i64 a2_1, .int .i64 a2_2]) (t := 39) ?hr ?_; (case hd => rfl); (case hg => rfl); (case hr => first | (go_simp; done) | (go_simp; rfl)); intro gb127 hg w6 hbox hb; have n0_ := kB BK126 hb; have n1_ := lB hb; have n2_ := Aside0.mk (hbox); have n3_ := sA hg; have n4_ := sA hg; have n5_ := nA hg BK126; have n6_ := nB hg BK126; clear BK126; clear HB; have BK126 := n0_; have HB := n1_; have BK127 := n2_; have GW127 := n3_; have GE127 := n4_; have NB126_127 := n5_; have NB127_126 := n6_; clear n0_ n1_ n2_ n3_ n4_ n5_ n6_; clear hb hbox hg))
 have n0_ := Aside0.mk (blk_drew BK126.out)
 have n1_ := Aside0.mk (blk_drew BK127.out)
 have n2_ := Aside0.mk (below_drew1 HB.out)
 clear BK126
 clear BK127
 clear HB
 have BK126 := n0_
 have BK127 := n1_
 have HB := n2_
 clear n0_ n1_ n2_
 refine start_ (n := 12) (S := fun w' => w'.cell? ⟨gb126, 0, none⟩ = some (.int .i64 a1_0) ∧ w'.cell? ⟨gb126, 1, none⟩ = some (.int .i64 a1_1) ∧ w'.cell? ⟨gb126, 2, none⟩ = some (.int .i64 a1_2) ∧ w'.cell? ⟨gb127, 0, none⟩ = some (.int .i64 a2_0) ∧ w'.cell? ⟨gb127, 1, none⟩ = some (.int .i64 a2_1) ∧ w'.cell? ⟨gb127, 2, none⟩ = some (.int .i64 a2_2)) (ds := []) #[Z, Z, Z, Z, Z, Z, Z, Z, Z, Z, Z, Z] (by kernel_rfl) rfl rfl ⟨cA BK126 0, cA BK126 1, cA BK126 2, cA BK127 0, cA BK127 1, cA BK127 2⟩ (fun hHeld => ?_); refine with_tabW spec_l02Distance.tab1 spec_l02Distance.bits1 (fun HT_ HW_ => ?_)
 generalize w6.drew = w7 at BK126 BK127 HB hHeld ⊢
 refine puA (i := 0) (N := some 7) #[Y, Z, Z, Z, Z, Z, Z, Z, Z, Z, Z, Z] rfl rfl HT_ ?_
 refine puA (i := 2) (N := some 9) #[Y, Z, Y, Z, Z, Z, Z, Z, Z, Z, Z, Z] rfl rfl HT_ ?_
 refine puA (i := 5) (N := some 12) #[Y, Z, Y, Z, Z, Y, Z, Z, Z, Z, Z, Z] rfl rfl HT_ ?_
 refine take_ (i := 1) (N := some 8) (v := ?_) (a' := ?_) #[Y, Y, Y, Z, Z, Y, Z, Z, Z, Z, Z, Z] rfl rfl (take_ofW HT_.out HW_.out (by kernel_rfl)) (fun _ _ _ h => h) (Or.inl ⟨by rfl, ?_⟩) hHeld ?_ ?_
 rotate_left
 ·
  rintro w' ⟨s0, s1, s2, s3, s4, s5⟩
  go_simp
  with_reducible rfl
 rotate_left
 ·
  simp only [pA]
  rfl
 refine take_ (i := 3) (N := some 10) (v := ?_) (a' := ?_) #[Y, Y, Y, Y, Z, Y, Z, Z, Z, Z, Z, Z] rfl rfl (take_ofW HT_.out HW_.out (by kernel_rfl)) (fun _ _ _ h => h) (Or.inl ⟨by rfl, ?_⟩) hHeld ?_ ?_
 rotate_left
 ·
  rintro w' ⟨s0, s1, s2, s3, s4, s5⟩
  go_simp
  with_reducible rfl
 rotate_left
 ·
  simp only [pA]
  rfl
 refine puA (i := 4) (N := some 11) #[Y, Y, Y, Y, Y, Y, Z, Z, Z, Z, Z, Z] rfl rfl HT_ ?_
 refine take_ (i := 6) (N := some 13) (v := ?_) (a' := ?_) #[Y, Y, Y, Y, Y, Y, Y, Z, Z, Z, Z, Z] rfl rfl (take_ofW HT_.out HW_.out (by kernel_rfl)) (fun _ _ _ h => h) (Or.inl ⟨by rfl, ?_⟩) hHeld ?_ ?_
 rotate_left
 ·
  rintro w' ⟨s0, s1, s2, s3, s4, s5⟩
  go_simp
  with_reducible rfl
 rotate_left
 ·
  simp only [pA]
  rfl
 refine take_ (i := 7) (N := some 14) (v := ?_) (a' := ?_) #[Y, Y, Y, Y, Y, Y, Y, Y, Z, Z, Z, Z] rfl rfl (take_ofW HT_.out HW_.out (by kernel_rfl)) (fun _ _ _ h => h) (Or.inl ⟨by rfl, ?_⟩) hHeld ?_ ?_
 rotate_left
 ·
  rintro w' ⟨s0, s1, s2, s3, s4, s5⟩
  go_simp
  with_reducible rfl
 rotate_left
 ·
  simp only [pA]
  rfl
 refine one_ (i := 8) (N := some 15) #[Y, Y, Y, Y, Y, Y, Y, Y, Y, Z, Z, Z] rfl rfl (one_of HT_.out (by kernel_rfl)) (by decide) (fun K hK => ?_)
 refine goes_ Try.func139 (by kernel_rfl) rfl #[.int .i64 a0, .agg #[.int .i64 a1_0, .int .i64 a1_1, .int .i64 a1_2], .agg #[.int .i64 a2_0, .int .i64 a2_1, .int .i64 a2_2]] (by rfl) rfl rfl hA ?_
 with_reducible refine (spec_l02Join.calls k a0 a1_0 a1_1 a1_2 a2_0 a2_1 a2_2 t128 _ A4.out).mono ?_
 rintro e w8 ⟨rfl, hb⟩
 refine ⟨_, rfl, ?_⟩
 replace BK126 := kB BK126 hb
 replace BK127 := kB BK127 hb
 replace HB := lB hb
 (try clear hb)
 (try clear hb2)
 (try clear hk)
 (try clear hi)
 refine hK.out _ _ ⟨cA BK126 0, cA BK126 1, cA BK126 2, cA BK127 0, cA BK127 1, cA BK127 2⟩ (fun hHeld => ?_)
 clear hK K
 refine norm_ (a' := ?_) ?_ ?_
 rotate_left
 ·
  show Act.put _ (some 15) _ = _
  simp only [pA]
  rfl
 refine puA (i := 9) (N := some 16) #[Y, Y, Y, Y, Y, Y, Y, Y, Y, Y, Z, Z] rfl rfl HT_ ?_
 refine puA (i := 10) (N := some 17) #[Y, Y, Y, Y, Y, Y, Y, Y, Y, Y, Y, Z] rfl rfl HT_ ?_
 refine puA (i := 11) (N := some 6) #[Y, Y, Y, Y, Y, Y, Y, Y, Y, Y, Y, Y] rfl rfl HT_ ?_
 refine done_ (done_of HT_.out (by kernel_rfl)) ?_
 try go_wp2
 go_ret
 exact finA blA
/-! ### impl_distance: function 96 -/
def impl_distance.f (k : Nat) (a0 : Int) (a1_0 : Int) (a1_1 : Int) (a1_2 : Int) (a2_0 : Int) (a2_1 : Int) (a2_2 : Int) : Option (Int) := (impl_joinLevel.f k a0 a1_0 a1_1 a1_2 a2_0 a2_1 a2_2).bind fun t267 => (some (wrap64 ((wrap64 (a1_0 + a2_0)) - (wrap64 (2 * t267)))))
theorem impl_distance.mono : ∀ a0 a1 a2 a3 a4 a5 a6 k, LeO (impl_distance.f k a0 a1 a2 a3 a4 a5 a6) (impl_distance.f (k + 1) a0 a1 a2 a3 a4 a5 a6) := by
 intro a0 a1 a2 a3 a4 a5 a6 k
 unfold impl_distance.f
 repeat' first
   | (with_reducible exact impl_joinLevel.mono _ _ _ _ _ _ _ _)
   | (with_reducible exact LeO.refl _)
   | (with_reducible exact LeO.none _)
   | (with_reducible refine LeO.ite ?_ ?_)
   | (with_reducible refine LeO.bind ?_ (fun _ => ?_))
def impl_distance.T1 : Bool × List (List Nat × List Nat) := (true, [([], []), ([0], [0]), ([], []), ([2], [2]), ([1, 3], [1, 3]), ([], []), ([], []), ([], []), ([5, 6, 7], [5, 6, 7]), ([8], [8]), ([4, 9], [4, 9]), ([10, 8, 0, 1, 2, 3, 4, 5, 6, 7, 8, 9, 10], [10])])
def impl_distance.B1 : List Nat := [0, 1, 0, 4, 15, 0, 0, 0, 224, 480, 1023, 2047]
theorem impl_distance.tab1 : rtab .any (opsOf Try.f96 1) = impl_distance.T1 := by kernel_rfl
theorem impl_distance.bits1 : waitsOk impl_distance.T1.2 impl_distance.B1 = true := by kernel_rfl
set_option maxHeartbeats 8000000 in
set_option maxRecDepth 100000 in
theorem impl_distance.calls (k : Nat) (a0 : Int) (a1_0 : Int) (a1_1 : Int) (a1_2 : Int) (a2_0 : Int) (a2_1 : Int) (a2_2 : Int) (r : Int) (w : World) (h : impl_distance.f k a0 a1_0 a1_1 a1_2 a2_0 a2_1 a2_2 = some r) :
  Calls Try.prog 96 #[.int .i64 a0, .agg #[.int .i64 a1_0, .int .i64 a1_1, .int .i64 a1_2], .agg #[.int .i64 a2_0, .int .i64 a2_1, .int .i64 a2_2]] w fun e w' => e = .returned (.int .i64 r) ∧ Below w.heap.size w w' := by
 have hu39 := Try.underlying39
 have HB := Aside0.mk (Below.refl w.heap.size w)
 have H := h
 unfold impl_distance.f at H
 clear h
 replace H := bS H
 obtain ⟨t267, A4, H⟩ := H
 try dsimp only at H
 obtain rfl := Option.some.inj H
 go_enter Try.func96, Try.ntmps96
 try go_wp2_with (first | ((with_reducible refine gate_dst (N := 4) rfl ?_); refine box_event ?hg (N := 4) ?hd (cs := #[.int .i64 a1_0, .int .i64 a1_1, .int .i64 a1_2]) (t := 39) ?hr ?_; (case hd => rfl); (case hg => rfl); (case hr => first | (go_simp; done) | (go_simp; rfl)); intro gb265 hg w5 hbox hb; have n0_ := lB hb; have n1_ := Aside0.mk (hbox); have n2_ := sA hg; have n3_ := sA hg; clear HB; have HB := n0_; have BK265 := n1_; have GW265 := n2_; have GE265 := n3_; clear n0_ n1_ n2_ n3_; clear hb hbox hg) | ((with_reducible refine gate_dst (N := 5) rfl ?_); refine box_event ?hg (N := 5) ?hd (cs := #[.int .i64 a2_0, .int .i64 a2_1, .int .i64 a2_2]) (t := 39) ?hr ?_; (case hd => rfl); (case hg => rfl); (case hr => first | (go_simp; done) | (go_simp; rfl)); intro gb266 hg w6 hbox hb; have n0_ := kB BK265 hb; have n1_ := lB hb; have n2_ := Aside0.mk (hbox); have n3_ := sA hg; have n4_ := sA hg; have n5_ := nA hg BK265; have n6_ := nB hg BK265; clear BK265; clear HB; have BK265 := n0_; have HB := n1_; have BK266 := n2_; have GW266 := n3_; have GE266 := n4_; have NB265_266 := n5_; have NB266_265 := n6_; clear n0_ n1_ n2_ n3_ n4_ n5_ n6_; clear hb hbox hg))
 have n0_ := Aside0.mk (blk_drew BK265.out)
 have n1_ := Aside0.mk (blk_drew BK266.out)
 have n2_ := Aside0.mk (below_drew1 HB.out)
 clear BK265
 clear BK266
 clear HB
 have BK265 := n0_
 have BK266 := n1_
 have HB := n2_
 clear n0_ n1_ n2_
 refine start_ (n := 12) (S := fun w' => w'.cell? ⟨gb265, 0, none⟩ = some (.int .i64 a1_0) ∧ w'.cell? ⟨gb265, 1, none⟩ = some (.int .i64 a1_1) ∧ w'.cell? ⟨gb265, 2, none⟩ = some (.int .i64 a1_2) ∧ w'.cell? ⟨gb266, 0, none⟩ = some (.int .i64 a2_0) ∧ w'.cell? ⟨gb266, 1, none⟩ = some (.int .i64 a2_1) ∧ w'.cell? ⟨gb266, 2, none⟩ = some (.int .i64 a2_2)) (ds := []) #[Z, Z, Z, Z, Z, Z, Z, Z, Z, Z, Z, Z] (by kernel_rfl) rfl rfl ⟨cA BK265 0, cA BK265 1, cA BK265 2, cA BK266 0, cA BK266 1, cA BK266 2⟩ (fun hHeld => ?_); refine with_tabW impl_distance.tab1 impl_distance.bits1 (fun HT_ HW_ => ?_)
 generalize w6.drew = w7 at BK265 BK266 HB hHeld ⊢
 refine puA (i := 0) (N := some 7) #[Y, Z, Z, Z, Z, Z, Z, Z, Z, Z, Z, Z] rfl rfl HT_ ?_
 refine puA (i := 2) (N := some 9) #[Y, Z, Y, Z, Z, Z, Z, Z, Z, Z, Z, Z] rfl rfl HT_ ?_
 refine puA (i := 5) (N := some 12) #[Y, Z, Y, Z, Z, Y, Z, Z, Z, Z, Z, Z] rfl rfl HT_ ?_
 refine take_ (i := 1) (N := some 8) (v := ?_) (a' := ?_) #[Y, Y, Y, Z, Z, Y, Z, Z, Z, Z, Z, Z] rfl rfl (take_ofW HT_.out HW_.out (by kernel_rfl)) (fun _ _ _ h => h) (Or.inl ⟨by rfl, ?_⟩) hHeld ?_ ?_
 rotate_left
 ·
  rintro w' ⟨s0, s1, s2, s3, s4, s5⟩
  go_simp
  with_reducible rfl
 rotate_left
 ·
  simp only [pA]
  rfl
 refine take_ (i := 3) (N := some 10) (v := ?_) (a' := ?_) #[Y, Y, Y, Y, Z, Y, Z, Z, Z, Z, Z, Z] rfl rfl (take_ofW HT_.out HW_.out (by kernel_rfl)) (fun _ _ _ h => h) (Or.inl ⟨by rfl, ?_⟩) hHeld ?_ ?_
 rotate_left
 ·
  rintro w' ⟨s0, s1, s2, s3, s4, s5⟩
  go_simp
  with_reducible rfl
 rotate_left
 ·
  simp only [pA]
  rfl
 refine puA (i := 4) (N := some 11) #[Y, Y, Y, Y, Y, Y, Z, Z, Z, Z, Z, Z] rfl rfl HT_ ?_
 refine take_ (i := 6) (N := some 13) (v := ?_) (a' := ?_) #[Y, Y, Y, Y, Y, Y, Y, Z, Z, Z, Z, Z] rfl rfl (take_ofW HT_.out HW_.out (by kernel_rfl)) (fun _ _ _ h => h) (Or.inl ⟨by rfl, ?_⟩) hHeld ?_ ?_
 rotate_left
 ·
  rintro w' ⟨s0, s1, s2, s3, s4, s5⟩
  go_simp
  with_reducible rfl
 rotate_left
 ·
  simp only [pA]
  rfl
 refine take_ (i := 7) (N := some 14) (v := ?_) (a' := ?_) #[Y, Y, Y, Y, Y, Y, Y, Y, Z, Z, Z, Z] rfl rfl (take_ofW HT_.out HW_.out (by kernel_rfl)) (fun _ _ _ h => h) (Or.inl ⟨by rfl, ?_⟩) hHeld ?_ ?_
 rotate_left
 ·
  rintro w' ⟨s0, s1, s2, s3, s4, s5⟩
  go_simp
  with_reducible rfl
 rotate_left
 ·
  simp only [pA]
  rfl
 refine one_ (i := 8) (N := some 15) #[Y, Y, Y, Y, Y, Y, Y, Y, Y, Z, Z, Z] rfl rfl (one_of HT_.out (by kernel_rfl)) (by decide) (fun K hK => ?_)
 refine goes_ Try.func134 (by kernel_rfl) rfl #[.int .i64 a0, .agg #[.int .i64 a1_0, .int .i64 a1_1, .int .i64 a1_2], .agg #[.int .i64 a2_0, .int .i64 a2_1, .int .i64 a2_2]] (by rfl) rfl rfl hA ?_
 with_reducible refine (impl_joinLevel.calls k a0 a1_0 a1_1 a1_2 a2_0 a2_1 a2_2 t267 _ A4.out).mono ?_
 rintro e w8 ⟨rfl, hb⟩
 refine ⟨_, rfl, ?_⟩
 replace BK265 := kB BK265 hb
 replace BK266 := kB BK266 hb
 replace HB := lB hb
 (try clear hb)
 (try clear hb2)
 (try clear hk)
 (try clear hi)
 refine hK.out _ _ ⟨cA BK265 0, cA BK265 1, cA BK265 2, cA BK266 0, cA BK266 1, cA BK266 2⟩ (fun hHeld => ?_)
 clear hK K
 refine norm_ (a' := ?_) ?_ ?_
 rotate_left
 ·
  show Act.put _ (some 15) _ = _
  simp only [pA]
  rfl
 refine puA (i := 9) (N := some 16) #[Y, Y, Y, Y, Y, Y, Y, Y, Y, Y, Z, Z] rfl rfl HT_ ?_
 refine puA (i := 10) (N := some 17) #[Y, Y, Y, Y, Y, Y, Y, Y, Y, Y, Y, Z] rfl rfl HT_ ?_
 refine puA (i := 11) (N := some 6) #[Y, Y, Y, Y, Y, Y, Y, Y, Y, Y, Y, Y] rfl rfl HT_ ?_
 refine done_ (done_of HT_.out (by kernel_rfl)) ?_
 try go_wp2
 go_ret
 exact finA blA
end Go.Proofs.Ytccpccnnbacgjaa.PAll
