-- turned for this claim out of the kit's print: the same functions, packed anew
import Derived.Test.YtccpccnnbacgjaaQx
import Derived.Test.YtccpccnnbacgjaaQLmarkMatrixS
import Derived.Test.YtccpccnnbacgjaaQimpldistance
import Derived.Test.YtccpccnnbacgjaaQimplinverted
import Derived.Test.YtccpccnnbacgjaaQimplregionCode
import Derived.Test.YtccpccnnbacgjaaQspecl02Join
import Derived.Test.YtccpccnnbacgjaaQspecl06Movers
namespace Go.Proofs.Ytccpccnnbacgjaa.PAll
open Go.RowKit Go.Proofs.YtccpccnnbacgjaaW.PrintWords Go.Proofs.YtccpccnnbacgjaaW.PrintLast Go.Proofs.YtccpccnnbacgjaaW.PrintMore
attribute [local go_sem] Go.Proofs.Ytccpccnnbacgjaa.Aux.setCell_drewN Go.Proofs.Ytccpccnnbacgjaa.Aux.isSome_setCell max2_int min2_int max_two min_two max_three min_three max_four min_four   -- for this text's walks alone
set_option linter.unusedVariables false
set_option linter.unusedSimpArgs false
/-! ### impl_OrbitIn: function 42 -/
mutual
def impl_OrbitIn.l0 : Nat → Int → Int → List (S26) → List (S26) → Int → Int → Int → Int → Int → Option ((List (S39)) × Int)
 | 0, _, _, _, _, _, _, _, _, _ => none
 | k + 1, x0, x3, x11, x39, x40, x41, x1111000, x1111001, x1111002 => if x41 < x40 then (if 0 ≤ x41 then (if x41 < (x39.length : Int) then ((impl_inverted.f k ((rd_T26 x39 x41).f0.f0) ((rd_T26 x39 x41).f0.f1) ((rd_T26 x39 x41).f1.f0) ((rd_T26 x39 x41).f1.f1)).bind fun bt1119 => (if x11.length < 4398046511104 then (impl_OrbitIn.l0 k x0 x3 (x11 ++ [(⟨(⟨bt1119.1, bt1119.2.1⟩ : S22), (⟨bt1119.2.2.1, bt1119.2.2.2⟩ : S22)⟩ : S26)]) x39 x40 (wrap64 (x41 + 1)) x1111000 x1111001 x1111002) else (none))) else (none)) else (none)) else (impl_OrbitIn.l1 k x0 x3 x11 (([(⟨x1111000, x1111001, x1111002⟩ : S39)] : List (S39))) 0)
def impl_OrbitIn.l1 : Nat → Int → Int → List (S26) → List (S39) → Int → Option ((List (S39)) × Int)
 | 0, _, _, _, _, _ => none
 | k + 1, x0, x3, x11, x14, x15 => if x15 < (x14.length : Int) then (impl_OrbitIn.l2 k x0 x3 x11 x14 x15 x11 (x11.length : Int) 0) else (some (x14, 0))
def impl_OrbitIn.l2 : Nat → Int → Int → List (S26) → List (S39) → Int → List (S26) → Int → Int → Option ((List (S39)) × Int)
 | 0, _, _, _, _, _, _, _, _ => none
 | k + 1, x0, x3, x11, x14, x15, x59, x60, x61 => if x61 < x60 then (if 0 ≤ x61 then (if x61 < (x59.length : Int) then (if 0 ≤ x15 then (if x15 < (x14.length : Int) then ((impl_moveBall.f k x0 ((rd_T26 x59 x61).f0.f0) ((rd_T26 x59 x61).f0.f1) ((rd_T26 x59 x61).f1.f0) ((rd_T26 x59 x61).f1.f1) ((rd_T39 x14 x15).f0) ((rd_T39 x14 x15).f1) ((rd_T39 x14 x15).f2)).bind fun bt1132 => (if bt1132.2.2.2 = true then ((impl_Ball_106.f k x14 bt1132.1 bt1132.2.1 bt1132.2.2.1).bind fun t1137 => (if t1137 = true then (impl_OrbitIn.l2 k x0 x3 x11 x14 x15 x59 x60 (wrap64 (x61 + 1))) else ((impl_distance.f k x0 bt1132.1 bt1132.2.1 bt1132.2.2.1 0 0 0).bind fun t1138 => (if t1138 ≤ x3 then (if x14.length < 5864062014805 then (impl_OrbitIn.l2 k x0 x3 x11 (x14 ++ [(⟨bt1132.1, bt1132.2.1, bt1132.2.2.1⟩ : S39)]) x15 x59 x60 (wrap64 (x61 + 1))) else (none)) else (impl_OrbitIn.l2 k x0 x3 x11 x14 x15 x59 x60 (wrap64 (x61 + 1))))))) else (impl_OrbitIn.l2 k x0 x3 x11 x14 x15 x59 x60 (wrap64 (x61 + 1))))) else (none)) else (none)) else (none)) else (none)) else (impl_OrbitIn.l1 k x0 x3 x11 x14 (wrap64 (x15 + 1)))
end
def impl_OrbitIn.f (k : Nat) (a0 : Int) (l1 : List (S26)) (a2_0 : Int) (a2_1 : Int) (a2_2 : Int) (a3 : Int) : Option ((List (S39)) × Int) := (impl_IsBall.f k a0 a2_0 a2_1 a2_2).bind fun t1111 => (if t1111 = true then ((impl_regionCode.f k a0 l1 a3).bind fun t1112 => (if t1112 = 0 then ((impl_distance.f k a0 a2_0 a2_1 a2_2 0 0 0).bind fun t1113 => (if t1113 > a3 then (some (([] : List (S39)), 2)) else ((impl_Matrix.f l1).bind fun t1114 => (impl_OrbitIn.l0 k a0 a3 t1114 l1 (l1.length : Int) 0 a2_0 a2_1 a2_2)))) else (some (([] : List (S39)), t1112)))) else (some (([] : List (S39)), 1)))
theorem impl_OrbitIn.mono_l : ∀ k, (∀ y0 y1 y2 y3 y4 y5 y6 y7 y8, LeO (impl_OrbitIn.l0 k y0 y1 y2 y3 y4 y5 y6 y7 y8) (impl_OrbitIn.l0 (k + 1) y0 y1 y2 y3 y4 y5 y6 y7 y8)) ∧ (∀ y0 y1 y2 y3 y4, LeO (impl_OrbitIn.l1 k y0 y1 y2 y3 y4) (impl_OrbitIn.l1 (k + 1) y0 y1 y2 y3 y4)) ∧ (∀ y0 y1 y2 y3 y4 y5 y6 y7, LeO (impl_OrbitIn.l2 k y0 y1 y2 y3 y4 y5 y6 y7) (impl_OrbitIn.l2 (k + 1) y0 y1 y2 y3 y4 y5 y6 y7))
 | 0 => ⟨fun _ _ _ _ _ _ _ _ _ r h => by simp [impl_OrbitIn.l0] at h, fun _ _ _ _ _ r h => by simp [impl_OrbitIn.l1] at h, fun _ _ _ _ _ _ _ _ r h => by simp [impl_OrbitIn.l2] at h⟩
 | k + 1 => by
  obtain ⟨ih0, ih1, ih2⟩ := impl_OrbitIn.mono_l k
  refine ⟨?_, ?_, ?_⟩
  ·
   intro y0 y1 y2 y3 y4 y5 y6 y7 y8
   unfold impl_OrbitIn.l0
   repeat' first
   | (with_reducible exact ih0 _ _ _ _ _ _ _ _ _)
   | (with_reducible exact ih1 _ _ _ _ _)
   | (with_reducible exact ih2 _ _ _ _ _ _ _ _)
   | (with_reducible exact impl_Ball_106.mono _ _ _ _ _)
   | (with_reducible exact impl_IsBall.mono _ _ _ _ _)
   | (with_reducible exact impl_distance.mono _ _ _ _ _ _ _ _)
   | (with_reducible exact impl_inverted.mono _ _ _ _ _)
   | (with_reducible exact impl_moveBall.mono _ _ _ _ _ _ _ _ _)
   | (with_reducible exact impl_regionCode.mono _ _ _ _)
   | (with_reducible exact LeO.refl _)
   | (with_reducible exact LeO.none _)
   | (with_reducible refine LeO.ite ?_ ?_)
   | (with_reducible refine LeO.bind ?_ (fun _ => ?_))
  ·
   intro y0 y1 y2 y3 y4
   unfold impl_OrbitIn.l1
   repeat' first
   | (with_reducible exact ih0 _ _ _ _ _ _ _ _ _)
   | (with_reducible exact ih1 _ _ _ _ _)
   | (with_reducible exact ih2 _ _ _ _ _ _ _ _)
   | (with_reducible exact impl_Ball_106.mono _ _ _ _ _)
   | (with_reducible exact impl_IsBall.mono _ _ _ _ _)
   | (with_reducible exact impl_distance.mono _ _ _ _ _ _ _ _)
   | (with_reducible exact impl_inverted.mono _ _ _ _ _)
   | (with_reducible exact impl_moveBall.mono _ _ _ _ _ _ _ _ _)
   | (with_reducible exact impl_regionCode.mono _ _ _ _)
   | (with_reducible exact LeO.refl _)
   | (with_reducible exact LeO.none _)
   | (with_reducible refine LeO.ite ?_ ?_)
   | (with_reducible refine LeO.bind ?_ (fun _ => ?_))
  ·
   intro y0 y1 y2 y3 y4 y5 y6 y7
   unfold impl_OrbitIn.l2
   repeat' first
   | (with_reducible exact ih0 _ _ _ _ _ _ _ _ _)
   | (with_reducible exact ih1 _ _ _ _ _)
   | (with_reducible exact ih2 _ _ _ _ _ _ _ _)
   | (with_reducible exact impl_Ball_106.mono _ _ _ _ _)
   | (with_reducible exact impl_IsBall.mono _ _ _ _ _)
   | (with_reducible exact impl_distance.mono _ _ _ _ _ _ _ _)
   | (with_reducible exact impl_inverted.mono _ _ _ _ _)
   | (with_reducible exact impl_moveBall.mono _ _ _ _ _ _ _ _ _)
   | (with_reducible exact impl_regionCode.mono _ _ _ _)
   | (with_reducible exact LeO.refl _)
   | (with_reducible exact LeO.none _)
   | (with_reducible refine LeO.ite ?_ ?_)
   | (with_reducible refine LeO.bind ?_ (fun _ => ?_))
theorem impl_OrbitIn.mono : ∀ a0 a1 a2 a3 a4 a5 k, LeO (impl_OrbitIn.f k a0 a1 a2 a3 a4 a5) (impl_OrbitIn.f (k + 1) a0 a1 a2 a3 a4 a5) := by
 intro a0 a1 a2 a3 a4 a5 k
 obtain ⟨ih0, ih1, ih2⟩ := impl_OrbitIn.mono_l k
 unfold impl_OrbitIn.f
 repeat' first
   | (with_reducible exact ih0 _ _ _ _ _ _ _ _ _)
   | (with_reducible exact ih1 _ _ _ _ _)
   | (with_reducible exact ih2 _ _ _ _ _ _ _ _)
   | (with_reducible exact impl_Ball_106.mono _ _ _ _ _)
   | (with_reducible exact impl_IsBall.mono _ _ _ _ _)
   | (with_reducible exact impl_distance.mono _ _ _ _ _ _ _ _)
   | (with_reducible exact impl_inverted.mono _ _ _ _ _)
   | (with_reducible exact impl_moveBall.mono _ _ _ _ _ _ _ _ _)
   | (with_reducible exact impl_regionCode.mono _ _ _ _)
   | (with_reducible exact LeO.refl _)
   | (with_reducible exact LeO.none _)
   | (with_reducible refine LeO.ite ?_ ?_)
   | (with_reducible refine LeO.bind ?_ (fun _ => ?_))
def impl_OrbitIn.T21 : Bool × List (List Nat × List Nat) := (true, [([], []), ([], []), ([], []), ([], []), ([2, 3], [2, 3]), ([4], [4]), ([0, 1, 5], [0, 1, 5]), ([6], [6]), ([7], [7]), ([7], [7]), ([], []), ([10, 8, 6, 0, 1, 2, 3, 4, 5, 6, 7, 8, 10], [8, 10]), ([9, 11, 0, 1, 2, 3, 4, 5, 6, 7, 8, 9, 10, 11], [9])])
def impl_OrbitIn.B21 : List Nat := [0, 0, 0, 0, 12, 28, 63, 127, 255, 255, 0, 1535, 4095]
theorem impl_OrbitIn.tab21 : rtab .any (opsOf Try.f42 21) = impl_OrbitIn.T21 := by kernel_rfl
theorem impl_OrbitIn.bits21 : waitsOk impl_OrbitIn.T21.2 impl_OrbitIn.B21 = true := by kernel_rfl
set_option maxHeartbeats 8000000 in
set_option maxRecDepth 100000 in
theorem impl_OrbitIn.calls (k : Nat) (a0 : Int) (A1 : Option Addr) (c1 : Nat) (l1 : List (S26)) (a2_0 : Int) (a2_1 : Int) (a2_2 : Int) (a3 : Int) (r1 : List (S39)) (r2 : Int) (w : World) (hr1 : Kd.C k26 w A1 l1.length l1) (hc1 : l1.length ≤ c1) (h : impl_OrbitIn.f k a0 l1 a2_0 a2_1 a2_2 a3 = some (r1, r2)) :
  Calls Try.prog 42 #[.int .i64 a0, .slice A1 l1.length c1, .agg #[.int .i64 a2_0, .int .i64 a2_1, .int .i64 a2_2], .int .i64 a3] w fun e w' => ∃ v0_ : Value, e = .returned (.tuple #[v0_, .int .i64 r2]) ∧ Kd.R k39 39 w' w.heap.size (fun _ => True) v0_ r1 ∧ Below w.heap.size w w' := by
 have hu39 := Try.underlying39
 have hu26 := Try.underlying26
 have HR1 := Aside0.mk hr1
 have HC1 := Aside0.mk hc1
 clear hr1 hc1
 have HB := Aside0.mk (Below.refl w.heap.size w)
 have H := h
 unfold impl_OrbitIn.f at H
 clear h
 replace H := bS H
 obtain ⟨t1111, A5, H⟩ := H
 try dsimp only at H
 by_cases c6 : t1111 = true
 ·
  subst c6
  rw [if_pos rfl] at H
  try dsimp only at H
  replace H := bS H
  obtain ⟨t1112, A7, H⟩ := H
  try dsimp only at H
  by_cases c8 : t1112 = 0
  ·
   rw [if_pos c8] at H
   have c8b0 : (t1112 == 0) = true := beq_iff_eq.mpr c8
   have c8b1 : (t1112 != 0) = false := bne_eq_false_iff_eq.mpr c8
   clear c8
   replace H := bS H
   obtain ⟨t1113, A9, H⟩ := H
   try dsimp only at H
   by_cases c10 : t1113 > a3
   ·
    rw [if_pos c10] at H
    have c10b0 : decide (a3 < t1113) = true := decide_eq_true c10
    clear c10
    simp only [Option.some.injEq, Prod.mk.injEq] at H
    obtain ⟨rfl, rfl⟩ := H
    go_enter Try.func42, Try.ntmps42
    go_wp2_with (first | ((with_reducible refine gate_dst (N := 6) rfl ?_); refine box_event ?hg (N := 6) ?hd (cs := #[.int .i64 a2_0, .int .i64 a2_1, .int .i64 a2_2]) (t := 39) ?hr ?_; (case hd => rfl); (case hg => rfl); (case hr => first | (go_simp; done) | (go_simp; rfl)); intro gb1110 hg w11 hbox hb; have n0_ := lB hb; have n1_ := Aside0.mk (hbox); have n2_ := sA hg; have n3_ := sA hg; clear HB; have HB := n0_; have BK1110 := n1_; have GW1110 := n2_; have GE1110 := n3_; clear n0_ n1_ n2_ n3_; clear hb hbox hg; obtain ⟨hcz12_0, hcz12_1, hcz12_2, hfz12_0, hfz12_1, hfz12_2⟩ := cz3 BK1110) | ((with_reducible refine gate_callee (f := 35) rfl ?_); refine goesL_ (some 22) rfl rfl Try.func35 (by kernel_rfl) rfl #[.int .i64 a0, .agg #[.int .i64 a2_0, .int .i64 a2_1, .int .i64 a2_2]] rfl hA ?_; (with_reducible refine (impl_IsBall.calls k a0 a2_0 a2_1 a2_2 true _ A5.out).mono ?_); rintro e w13 ⟨rfl, hb⟩; refine ⟨_, rfl, ?_⟩; have n0_ := kB BK1110 hb; have n1_ := lB hb; clear BK1110; clear HB; have BK1110 := n0_; have HB := n1_; clear n0_ n1_; (try clear hb); (try clear hb2); (try clear hk); (try clear hi)) | ((with_reducible refine gate_callee (f := 104) rfl ?_); refine goesL_ (some 27) rfl rfl Try.func104 (by kernel_rfl) rfl #[.int .i64 a0, .slice A1 l1.length c1, .int .i64 a3] rfl hA ?_; (with_reducible refine (impl_regionCode.calls k a0 _ _ l1 a3 t1112 _ ?side1 ?side2 A7.out).mono ?_); (case side1 => repeat (first | exact (Kd.C_below HR1.out HB.out) | (with_reducible refine Kd.C_alloc ?_ _) | (with_reducible refine Kd.C_drewN ?_ _) | (with_reducible refine Kd.C_drew ?_))); (case side2 => exact HC1.out); rintro e w14 ⟨rfl, hb⟩; refine ⟨_, rfl, ?_⟩; have n0_ := kB BK1110 hb; have n1_ := lB hb; clear BK1110; clear HB; have BK1110 := n0_; have HB := n1_; clear n0_ n1_; (try clear hb); (try clear hb2); (try clear hk); (try clear hi); obtain ⟨hcz15_0, hcz15_1, hcz15_2, hfz15_0, hfz15_1, hfz15_2⟩ := cz3 BK1110) | ((with_reducible refine gate_callee (f := 96) rfl ?_); refine goesL_ (some 34) rfl rfl Try.func96 (by kernel_rfl) rfl #[.int .i64 a0, .agg #[.int .i64 a2_0, .int .i64 a2_1, .int .i64 a2_2], .agg #[.int .i64 0, .int .i64 0, .int .i64 0]] rfl hA ?_; (with_reducible refine (impl_distance.calls k a0 a2_0 a2_1 a2_2 0 0 0 t1113 _ A9.out).mono ?_); rintro e w16 ⟨rfl, hb⟩; refine ⟨_, rfl, ?_⟩; have n0_ := kB BK1110 hb; have n1_ := lB hb; clear BK1110; clear HB; have BK1110 := n0_; have HB := n1_; clear n0_ n1_; (try clear hb); (try clear hb2); (try clear hk); (try clear hi)))
    go_ret2
    exact ⟨_, by first | rfl | (simp [errW_none, errW_some] <;> rfl) | (simp [*, errW_none, errW_some] <;> rfl), by first | exact Kd.R_nil _ _ _ _ _ | exact Kd.N_nil _ _ _ _ _ | exact Kd.V_nil _ _ _ _ _ | exact Kd.Q_nil _ _ _ _ _ | exact Kd.S_nil _ _ _ _ _, blA⟩
   ·
    rw [if_neg c10] at H
    have c10b0 : decide (a3 < t1113) = false := decide_eq_false c10
    clear c10
    replace H := bS H
    obtain ⟨t1114, A17, H⟩ := H
    try dsimp only at H
    have H' := Aside0.mk H
    clear H
    go_enter Try.func42, Try.ntmps42
    go_wp2_with (first | ((with_reducible refine gate_dst (N := 6) rfl ?_); refine box_event ?hg (N := 6) ?hd (cs := #[.int .i64 a2_0, .int .i64 a2_1, .int .i64 a2_2]) (t := 39) ?hr ?_; (case hd => rfl); (case hg => rfl); (case hr => first | (go_simp; done) | (go_simp; rfl)); intro gb1110 hg w18 hbox hb; have n0_ := lB hb; have n1_ := Aside0.mk (hbox); have n2_ := sA hg; have n3_ := sA hg; clear HB; have HB := n0_; have BK1110 := n1_; have GW1110 := n2_; have GE1110 := n3_; clear n0_ n1_ n2_ n3_; clear hb hbox hg; obtain ⟨hcz19_0, hcz19_1, hcz19_2, hfz19_0, hfz19_1, hfz19_2⟩ := cz3 BK1110) | ((with_reducible refine gate_callee (f := 35) rfl ?_); refine goesL_ (some 22) rfl rfl Try.func35 (by kernel_rfl) rfl #[.int .i64 a0, .agg #[.int .i64 a2_0, .int .i64 a2_1, .int .i64 a2_2]] rfl hA ?_; (with_reducible refine (impl_IsBall.calls k a0 a2_0 a2_1 a2_2 true _ A5.out).mono ?_); rintro e w20 ⟨rfl, hb⟩; refine ⟨_, rfl, ?_⟩; have n0_ := kB BK1110 hb; have n1_ := lB hb; clear BK1110; clear HB; have BK1110 := n0_; have HB := n1_; clear n0_ n1_; (try clear hb); (try clear hb2); (try clear hk); (try clear hi)) | ((with_reducible refine gate_callee (f := 104) rfl ?_); refine goesL_ (some 27) rfl rfl Try.func104 (by kernel_rfl) rfl #[.int .i64 a0, .slice A1 l1.length c1, .int .i64 a3] rfl hA ?_; (with_reducible refine (impl_regionCode.calls k a0 _ _ l1 a3 t1112 _ ?side1 ?side2 A7.out).mono ?_); (case side1 => repeat (first | exact (Kd.C_below HR1.out HB.out) | (with_reducible refine Kd.C_alloc ?_ _) | (with_reducible refine Kd.C_drewN ?_ _) | (with_reducible refine Kd.C_drew ?_))); (case side2 => exact HC1.out); rintro e w21 ⟨rfl, hb⟩; refine ⟨_, rfl, ?_⟩; have n0_ := kB BK1110 hb; have n1_ := lB hb; clear BK1110; clear HB; have BK1110 := n0_; have HB := n1_; clear n0_ n1_; (try clear hb); (try clear hb2); (try clear hk); (try clear hi); obtain ⟨hcz22_0, hcz22_1, hcz22_2, hfz22_0, hfz22_1, hfz22_2⟩ := cz3 BK1110) | ((with_reducible refine gate_callee (f := 96) rfl ?_); refine goesL_ (some 34) rfl rfl Try.func96 (by kernel_rfl) rfl #[.int .i64 a0, .agg #[.int .i64 a2_0, .int .i64 a2_1, .int .i64 a2_2], .agg #[.int .i64 0, .int .i64 0, .int .i64 0]] rfl hA ?_; (with_reducible refine (impl_distance.calls k a0 a2_0 a2_1 a2_2 0 0 0 t1113 _ A9.out).mono ?_); rintro e w23 ⟨rfl, hb⟩; refine ⟨_, rfl, ?_⟩; have n0_ := kB BK1110 hb; have n1_ := lB hb; clear BK1110; clear HB; have BK1110 := n0_; have HB := n1_; clear n0_ n1_; (try clear hb); (try clear hb2); (try clear hk); (try clear hi)) | ((with_reducible refine gate_callee (f := 105) rfl ?_); refine goesL_ (some 38) rfl rfl Try.func105 (by kernel_rfl) rfl #[.slice A1 l1.length c1] rfl hA ?_; (with_reducible refine (impl_Matrix.calls _ _ l1 t1114 _ ?side1 ?side2 A17.out).mono ?_); (case side1 => repeat (first | exact (Kd.C_below HR1.out HB.out) | (with_reducible refine Kd.C_alloc ?_ _) | (with_reducible refine Kd.C_drewN ?_ _) | (with_reducible refine Kd.C_drew ?_))); (case side2 => exact HC1.out); rintro e w24 ⟨v1115, rfl, ho0, hb⟩; refine ⟨_, rfl, ?_⟩; have n0_ := Aside0.mk (Kd.R_lower ho0 (below_size blA)); have n1_ := kB BK1110 hb; have n2_ := lB hb; clear BK1110; clear HB; have HO1116 := n0_; have BK1110 := n1_; have HB := n2_; clear n0_ n1_ n2_; (try clear hb); (try clear hb2); (try clear hk); (try clear hi); (try clear ho0)))
    go_loopg [11, 41] k (fun kq v11 v41 w' => ∃ (x11_1 : List (S26)) (x41_1 : Int), v41 = .int .i64 x41_1 ∧ Aside0 (impl_OrbitIn.l0 kq a0 a3 x11_1 l1 (l1.length : Int) x41_1 a2_0 a2_1 a2_2 = some (r1, r2)) ∧ Aside0 (kq ≤ k) ∧ Aside0 (Kd.R k26 26 w' w.heap.size (fun _ => True) v11 x11_1) ∧ Aside0 (w'.heap[gb1110]? = some (.cells #[.int .i64 a2_0, .int .i64 a2_1, .int .i64 a2_2] 39 (0, 0))) ∧ Aside0 (Below w.heap.size w w'))
    case atStart => exact ⟨(t1114), (0), hB, H', ⟨Nat.le_refl _⟩, ⟨rA HO1116⟩, ⟨bkA BK1110⟩, ⟨blA⟩⟩
    case round =>
     clear H'
     try clear c1
     try clear c3
     try clear c6
     try clear c8
     try clear c8b0
     try clear c8b1
     try clear c10
     try clear c10b0
     try clear hcz12_0
     try clear hcz12_1
     try clear hcz12_2
     try clear hcz15_0
     try clear hcz15_1
     try clear hcz15_2
     try clear hcz19_0
     try clear hcz19_1
     try clear hcz19_2
     try clear hcz22_0
     try clear hcz22_1
     try clear hcz22_2
     try clear hfz12_0
     try clear hfz12_1
     try clear hfz12_2
     try clear hfz15_0
     try clear hfz15_1
     try clear hfz15_2
     try clear hfz19_0
     try clear hfz19_1
     try clear hfz19_2
     try clear hfz22_0
     try clear hfz22_1
     try clear hfz22_2
     obtain ⟨x11_1, x41_1, rfl, HA, HK1, HO_11, BK1110, HB⟩ := hrel
     cases gk with
     | zero => exact absurd HA.out (by simp [impl_OrbitIn.l0])
     | succ k1 =>
      have H := HA.out
      clear HA
      simp only [impl_OrbitIn.l0] at H
      by_cases c25 : x41_1 < (l1.length : Int)
      ·
       rw [if_pos c25] at H
       have c25b0 := decide_eq_true c25
       clear c25
       by_cases c26 : 0 ≤ x41_1
       ·
        rw [if_pos c26] at H
        have c26b0 := decide_eq_true c26
        clear c26
        by_cases c27 : x41_1 < (l1.length : Int)
        ·
         rw [if_pos c27] at H
         have c27b0 := decide_eq_true c27
         clear c27
         replace H := bS H
         obtain ⟨⟨t1119, t1120, t1121, t1122⟩, A28, H⟩ := H
         try dsimp only at H
         by_cases c29 : x11_1.length < 4398046511104
         ·
          rw [if_pos c29] at H
          have LMc29 := Aside0.mk c29
          clear c29
          obtain ⟨y1123, hy1123⟩ : ∃ y_ : List (S26), y_ = (x11_1 ++ [(⟨(⟨t1119, t1120⟩ : S22), (⟨t1121, t1122⟩ : S22)⟩ : S26)]) := ⟨_, rfl⟩
          replace H : (impl_OrbitIn.l0 k1 a0 a3 y1123 l1 (l1.length : Int) (wrap64 (x41_1 + 1)) a2_0 a2_1 a2_2) = some (r1, r2) := by first | (rw [hy1123]; with_reducible exact H) | (have H2_ := (Option.bind_some _ _).symm.trans H; rw [hy1123]; with_reducible exact H2_) | (have H2_ := (Option.bind_some _ _).symm.trans H; with_reducible exact H2_) | with_reducible exact H | (rw [hy1123]; exact H) | exact H
          have Ny1123 := Aside0.mk hy1123
          clear hy1123
          have H' := Aside0.mk H
          clear H
          have p1117 : 0 ≤ (x41_1 : Int) := dA
          have q1117 : x41_1 < (l1.length : Int) := dA
          obtain ⟨ad1117, e1117, hx1117_0, hx1117_1, hx1117_2, hx1117_3⟩ := at_T26 HR1.out x41_1 p1117 q1117
          cases e1117
          replace hx1117_0 := (HB.out.cell (World.block_lt_of_cell? w _ hx1117_0)).trans hx1117_0
          replace hx1117_1 := (HB.out.cell (World.block_lt_of_cell? w _ hx1117_1)).trans hx1117_1
          replace hx1117_2 := (HB.out.cell (World.block_lt_of_cell? w _ hx1117_2)).trans hx1117_2
          replace hx1117_3 := (HB.out.cell (World.block_lt_of_cell? w _ hx1117_3)).trans hx1117_3
          replace p1117 := eq_true p1117
          replace q1117 := eq_true q1117
          go_wp2_with (first | ((with_reducible refine gate_dst (N := 13) rfl ?_); refine box_event ?hg (N := 13) ?hd (cs := #[.int .i64 0, .int .i64 0, .int .i64 0, .int .i64 0]) (t := 26) ?hr ?_; (case hd => rfl); (case hg => rfl); (case hr => first | (go_simp; done) | (go_simp; rfl)); intro gb1118 hg w30 hbox hb; have n0_ := Aside0.mk (Kd.R_below (Kd.R_elderB (rA HO_11) gb1118 (Nat.le_of_eq hg.symm)) hb); have n1_ := kB BK1110 hb; have n2_ := lB hb; have n3_ := Aside0.mk (hbox); have n4_ := sA hg; have n5_ := sA hg; have n6_ := nA hg BK1110; have n7_ := nB hg BK1110; clear HO_11; clear BK1110; clear HB; have HO_11 := n0_; have BK1110 := n1_; have HB := n2_; have BK1118 := n3_; have GW1118 := n4_; have GE1118 := n5_; have NB1110_1118 := n6_; have NB1118_1110 := n7_; clear n0_ n1_ n2_ n3_ n4_ n5_ n6_ n7_; clear hb hbox hg; have hnb31 := NB1118_1110.out; have hnc31 := NB1110_1118.out; obtain ⟨hcz32_0, hcz32_1, hcz32_2, hcz32_3, hfz32_0, hfz32_1, hfz32_2, hfz32_3⟩ := cz4 BK1118) | ((with_reducible refine gate_callee (f := 90) rfl ?_); refine goesL_ (some 47) rfl rfl Try.func90 (by kernel_rfl) rfl #[.agg #[.int .i64 ((rd_T26 l1 x41_1).f0.f0), .int .i64 ((rd_T26 l1 x41_1).f0.f1), .int .i64 ((rd_T26 l1 x41_1).f1.f0), .int .i64 ((rd_T26 l1 x41_1).f1.f1)]] rfl hA ?_; (with_reducible refine (impl_inverted.calls k1 ((rd_T26 l1 x41_1).f0.f0) ((rd_T26 l1 x41_1).f0.f1) ((rd_T26 l1 x41_1).f1.f0) ((rd_T26 l1 x41_1).f1.f1) t1119 t1120 t1121 t1122 _ A28.out).mono ?_); rintro e w33 ⟨rfl, hb⟩; refine ⟨_, rfl, ?_⟩; have n0_ := Aside0.mk (Kd.R_below (by (with_reducible repeat (first | apply Kd.R_alloc | apply Kd.R_drewN | apply Kd.R_drew)); exact (Kd.R_mono (Kd.R_far (p := ⟨gb1118, 3, none⟩) (Kd.R_far (p := ⟨gb1118, 2, none⟩) (Kd.R_far (p := ⟨gb1118, 1, none⟩) (Kd.R_far (p := ⟨gb1118, 0, none⟩) (Kd.R_mono HO_11.out (fun k_ hk => (⟨hk, hk.2⟩ : _ ∧ k_ ≠ gb1118))) (fun _ hk => hk.2) (.int .i64 ((rd_T26 l1 x41_1).f0.f0))) (fun _ hk => hk.2) (.int .i64 ((rd_T26 l1 x41_1).f0.f1))) (fun _ hk => hk.2) (.int .i64 ((rd_T26 l1 x41_1).f1.f0))) (fun _ hk => hk.2) (.int .i64 ((rd_T26 l1 x41_1).f1.f1))) (fun _ h_ => h_.1))) hb); have n1_ := Aside0.mk (blk_below (g := gb1110) (o := .cells #[.int .i64 a2_0, .int .i64 a2_1, .int .i64 a2_2] 39 (0, 0)) (bkF BK1110) hb); have n2_ := Aside0.mk (blk_below (g := gb1118) (o := .cells #[.int .i64 ((rd_T26 l1 x41_1).f0.f0), .int .i64 ((rd_T26 l1 x41_1).f0.f1), .int .i64 ((rd_T26 l1 x41_1).f1.f0), .int .i64 ((rd_T26 l1 x41_1).f1.f1)] 26 (0, 0)) (by refine dr ?_; refine blk_put (cs := #[.int .i64 ((rd_T26 l1 x41_1).f0.f0), .int .i64 ((rd_T26 l1 x41_1).f0.f1), .int .i64 ((rd_T26 l1 x41_1).f1.f0), .int .i64 0]) ?_ 3 _ rfl; refine dr ?_; refine blk_put (cs := #[.int .i64 ((rd_T26 l1 x41_1).f0.f0), .int .i64 ((rd_T26 l1 x41_1).f0.f1), .int .i64 0, .int .i64 0]) ?_ 2 _ rfl; refine dr ?_; refine blk_put (cs := #[.int .i64 ((rd_T26 l1 x41_1).f0.f0), .int .i64 0, .int .i64 0, .int .i64 0]) ?_ 1 _ rfl; refine dr ?_; refine blk_put (cs := #[.int .i64 0, .int .i64 0, .int .i64 0, .int .i64 0]) ?_ 0 _ rfl; exact bkA BK1118) hb); have n3_ := lB hb; clear HO_11; clear BK1110; clear BK1118; clear HB; have HO_11 := n0_; have BK1110 := n1_; have BK1118 := n2_; have HB := n3_; clear n0_ n1_ n2_ n3_; (try clear hb); (try clear hb2); (try clear hk); (try clear hi)) | ((with_reducible refine gate_builtin (b := .append) (xs := #[.tmp 45, .tmp 48]) rfl ?_); at_builtin; refine Kd.R_append k26 (w0 := w) w.heap.size rfl (.tmp 45) (.tmp 48) 65 26 (.agg #[(.int .i64 0), (.int .i64 0), (.int .i64 0), (.int .i64 0)]) 32 rfl Try.underlying65 info26 rfl (by decide) (by omega) u11 x11_1 (⟨(⟨t1119, t1120⟩ : S22), (⟨t1121, t1122⟩ : S22)⟩ : S26) [.int .i64 t1119, .int .i64 t1120, .int .i64 t1121, .int .i64 t1122] (fun k_ => k_ ≠ gb1118) (fun _ => False) rfl rfl ?aP (fun _ hk => hk.elim) ?aF ?aO ?aB ?aS ?aL ?_; (case aP => exact k26_mkM _ _ _ (⟨(⟨t1119, t1120⟩ : S22), (⟨t1121, t1122⟩ : S22)⟩ : S26)); (case aB => exact blA); (case aF => exact (fun k_ hk => Kd.freshB (bkA BK1118) k_ hk)); (case aO => exact (by (with_reducible repeat (first | apply Kd.R_alloc | apply Kd.R_drewN | apply Kd.R_drew)); exact Kd.R_mono HO_11.out (fun _ hk => hk.2))); (case aS => exact (below_size blA)); (case aL => have := LMc29.out; omega); intro v1124 w34 ho hb hg hat; rw [← Ny1123.out] at ho; have n0_ := Aside0.mk (blk_grown (bkA BK1110) hg (Kd.R_ne HO_11.out BK1110.out (by decide))); have n1_ := Aside0.mk (blk_grown (bkA BK1118) hg (Kd.R_away HO_11.out (fun _ hk => hk.2))); have n2_ := Aside0.mk (hb); have n3_ := Aside0.mk (ho); clear BK1110; clear BK1118; clear HB; clear HO_11; have BK1110 := n0_; have BK1118 := n1_; have HB := n2_; have HO1125 := n3_; clear n0_ n1_ n2_ n3_; clear ho hb hg hat))
          go_roundg k1
          case measure => have := HK1.out; omega
          case rel => exact ⟨(y1123), (wrap64 (x41_1 + 1)), hB, H', ⟨by have := HK1.out; omega⟩, ⟨by (with_reducible repeat (first | apply Kd.R_alloc | apply Kd.R_drewN | apply Kd.R_drew)); exact Kd.R_mono HO1125.out (fun _ hk => trivial)⟩, ⟨bkA BK1110⟩, ⟨blA⟩⟩
         ·
          rw [if_neg c29] at H
          exact absurd H (by simp)
        ·
         rw [if_neg c27] at H
         exact absurd H (by simp)
       ·
        rw [if_neg c26] at H
        exact absurd H (by simp)
      ·
       rw [if_neg c25] at H
       have c25b0 := decide_eq_false c25
       clear c25
       obtain ⟨y1126, hy1126⟩ : ∃ y_ : List (S39), y_ = (([(⟨a2_0, a2_1, a2_2⟩ : S39)] : List (S39))) := ⟨_, rfl⟩
       replace H : (impl_OrbitIn.l1 k1 a0 a3 x11_1 y1126 0) = some (r1, r2) := by first | (rw [hy1126]; with_reducible exact H) | (have H2_ := (Option.bind_some _ _).symm.trans H; rw [hy1126]; with_reducible exact H2_) | (have H2_ := (Option.bind_some _ _).symm.trans H; with_reducible exact H2_) | with_reducible exact H | (rw [hy1126]; exact H) | exact H
       have Ny1126 := Aside0.mk hy1126
       clear hy1126
       have H' := Aside0.mk H
       clear H
       obtain ⟨hcz35_0, hcz35_1, hcz35_2, hfz35_0, hfz35_1, hfz35_2⟩ := cz3 BK1110
       go_wp2_with (first | ((with_reducible refine gate_dst (N := 52) rfl ?_); refine Kd.R_lit k39 _ 39 ?hg (N := 52) ?hd (xs := ([(⟨a2_0, a2_1, a2_2⟩ : S39)] : List (S39))) (inner := [.int .i64 a2_0, .int .i64 a2_1, .int .i64 a2_2]) (ok := fun _ => True) (okp := fun _ => True) ?hr ?hp (fun _ hk => hk) trivial (Below.refl _ _) (Nat.le_refl _) (by simp) ?_; (case hd => rfl); (case hg => rfl); (case hr => first | (go_simp; done) | (go_simp; rfl)); (case hp => exact (Reps.c3 (show Kd.M k39 _ _ _ (⟨a2_0, a2_1, a2_2⟩ : S39) [.int .i64 a2_0, .int .i64 a2_1, .int .i64 a2_2] from (k39_mkM _ _ _ (⟨a2_0, a2_1, a2_2⟩ : S39) )) (Reps.none _ _))); intro v1127 w36 ho37 hb hg_ hnew_; clear hg_ hnew_; (first | rw [← Ny1126.out] at ho37 | (simp only [Int.reduceToNat] at ho37; rw [← Ny1126.out] at ho37)); have n0_ := Aside0.mk (Kd.R_below (rA HO_11) hb); have n1_ := Aside0.mk (Kd.R_lower (Kd.R_newB ho37 (bkA BK1110)) (below_size blA)); have n2_ := kB BK1110 hb; have n3_ := lB hb; clear HO_11; clear BK1110; clear HB; have HO_11 := n0_; have HO1128 := n1_; have BK1110 := n2_; have HB := n3_; clear n0_ n1_ n2_ n3_; clear hb ho37))
       go_loopg [14, 15] k1 (fun kq v14 v15 w' => ∃ (x14_2 : List (S39)) (x15_2 : Int), v15 = .int .i64 x15_2 ∧ Aside0 (impl_OrbitIn.l1 kq a0 a3 x11_1 x14_2 x15_2 = some (r1, r2)) ∧ Aside0 (kq ≤ k1) ∧ Aside0 (Kd.R k26 26 w' w.heap.size (fun _ => True) u11 x11_1) ∧ Aside0 (Kd.R k39 39 w' w.heap.size (fun k_ => k_ ≠ gb1110) v14 x14_2) ∧ Aside0 (w'.heap[gb1110]? = some (.cells #[.int .i64 a2_0, .int .i64 a2_1, .int .i64 a2_2] 39 (0, 0))) ∧ Aside0 (Below w.heap.size w w'))
       case atStart => exact ⟨(y1126), (0), hB, H', ⟨Nat.le_refl _⟩, ⟨rA HO_11⟩, ⟨by (with_reducible repeat (first | apply Kd.R_alloc | apply Kd.R_drewN | apply Kd.R_drew)); exact Kd.R_mono HO1128.out (fun _ hk => hk.2)⟩, ⟨bkA BK1110⟩, ⟨blA⟩⟩
       case round =>
        clear H'
        try clear c1
        try clear c3
        try clear c6
        try clear c8
        try clear c8b0
        try clear c8b1
        try clear c10
        try clear c10b0
        try clear c25
        try clear c25b0
        try clear c26
        try clear c26b0
        try clear c27
        try clear c27b0
        try clear c29
        try clear hcz12_0
        try clear hcz12_1
        try clear hcz12_2
        try clear hcz15_0
        try clear hcz15_1
        try clear hcz15_2
        try clear hcz19_0
        try clear hcz19_1
        try clear hcz19_2
        try clear hcz22_0
        try clear hcz22_1
        try clear hcz22_2
        try clear hcz32_0
        try clear hcz32_1
        try clear hcz32_2
        try clear hcz32_3
        try clear hcz35_0
        try clear hcz35_1
        try clear hcz35_2
        try clear hfz12_0
        try clear hfz12_1
        try clear hfz12_2
        try clear hfz15_0
        try clear hfz15_1
        try clear hfz15_2
        try clear hfz19_0
        try clear hfz19_1
        try clear hfz19_2
        try clear hfz22_0
        try clear hfz22_1
        try clear hfz22_2
        try clear hfz32_0
        try clear hfz32_1
        try clear hfz32_2
        try clear hfz32_3
        try clear hfz35_0
        try clear hfz35_1
        try clear hfz35_2
        try clear hx1117_0
        try clear hx1117_1
        try clear hx1117_2
        try clear hx1117_3
        try clear p1117
        try clear q1117
        obtain ⟨x14_2, x15_2, rfl, HA, HK2, HO_11, HO_14, BK1110, HB⟩ := hrel
        cases gk with
        | zero => exact absurd HA.out (by simp [impl_OrbitIn.l1])
        | succ k2 =>
         have H := HA.out
         clear HA
         simp only [impl_OrbitIn.l1] at H
         by_cases c38 : x15_2 < (x14_2.length : Int)
         ·
          rw [if_pos c38] at H
          have c38b0 := decide_eq_true c38
          clear c38
          have H' := Aside0.mk H
          clear H
          obtain ⟨Ao39, co39, eo39⟩ := Kd.R_slice HO_14.out
          subst eo39
          obtain ⟨Ao40, co40, eo40⟩ := Kd.R_slice HO_11.out
          subst eo40
          go_wp2
          go_loopg [14, 61] k2 (fun kq v14 v61 w' => ∃ (x14_3 : List (S39)) (x61_3 : Int), v61 = .int .i64 x61_3 ∧ Aside0 (impl_OrbitIn.l2 kq a0 a3 x11_1 x14_3 x15_2 x11_1 (x11_1.length : Int) x61_3 = some (r1, r2)) ∧ Aside0 (kq ≤ k2) ∧ Aside0 (Kd.R k26 26 w' w.heap.size (fun _ => True) (.slice Ao40 x11_1.length co40) x11_1) ∧ Aside0 (Kd.R k39 39 w' w.heap.size (fun k_ => k_ ≠ gb1110) v14 x14_3) ∧ Aside0 (Kd.R k26 26 w' w.heap.size (fun _ => True) (.slice Ao40 x11_1.length co40) x11_1) ∧ Aside0 (w'.heap[gb1110]? = some (.cells #[.int .i64 a2_0, .int .i64 a2_1, .int .i64 a2_2] 39 (0, 0))) ∧ Aside0 (Below w.heap.size w w'))
          case atStart => exact ⟨(x14_2), (0), hB, H', ⟨Nat.le_refl _⟩, ⟨rA HO_11⟩, ⟨rA HO_14⟩, ⟨rA HO_11⟩, ⟨bkA BK1110⟩, ⟨blA⟩⟩
          case round =>
           clear H'
           try clear c1
           try clear c3
           try clear c6
           try clear c8
           try clear c8b0
           try clear c8b1
           try clear c10
           try clear c10b0
           try clear c25
           try clear c25b0
           try clear c26
           try clear c26b0
           try clear c27
           try clear c27b0
           try clear c29
           try clear c38
           try clear c38b0
           try clear hcz12_0
           try clear hcz12_1
           try clear hcz12_2
           try clear hcz15_0
           try clear hcz15_1
           try clear hcz15_2
           try clear hcz19_0
           try clear hcz19_1
           try clear hcz19_2
           try clear hcz22_0
           try clear hcz22_1
           try clear hcz22_2
           try clear hcz32_0
           try clear hcz32_1
           try clear hcz32_2
           try clear hcz32_3
           try clear hcz35_0
           try clear hcz35_1
           try clear hcz35_2
           try clear hfz12_0
           try clear hfz12_1
           try clear hfz12_2
           try clear hfz15_0
           try clear hfz15_1
           try clear hfz15_2
           try clear hfz19_0
           try clear hfz19_1
           try clear hfz19_2
           try clear hfz22_0
           try clear hfz22_1
           try clear hfz22_2
           try clear hfz32_0
           try clear hfz32_1
           try clear hfz32_2
           try clear hfz32_3
           try clear hfz35_0
           try clear hfz35_1
           try clear hfz35_2
           try clear hx1117_0
           try clear hx1117_1
           try clear hx1117_2
           try clear hx1117_3
           try clear p1117
           try clear q1117
           obtain ⟨x14_3, x61_3, rfl, HA, HK3, HO_11, HO_14, HO_59, BK1110, HB⟩ := hrel
           cases gk with
           | zero => exact absurd HA.out (by simp [impl_OrbitIn.l2])
           | succ k3 =>
            have H := HA.out
            clear HA
            simp only [impl_OrbitIn.l2] at H
            by_cases c41 : x61_3 < (x11_1.length : Int)
            ·
             rw [if_pos c41] at H
             have c41b0 := decide_eq_true c41
             clear c41
             by_cases c42 : 0 ≤ x61_3
             ·
              rw [if_pos c42] at H
              have c42b0 := decide_eq_true c42
              clear c42
              by_cases c43 : x61_3 < (x11_1.length : Int)
              ·
               rw [if_pos c43] at H
               have c43b0 := decide_eq_true c43
               clear c43
               by_cases c44 : 0 ≤ x15_2
               ·
                rw [if_pos c44] at H
                have c44b0 := decide_eq_true c44
                clear c44
                by_cases c45 : x15_2 < (x14_3.length : Int)
                ·
                 rw [if_pos c45] at H
                 have c45b0 := decide_eq_true c45
                 clear c45
                 replace H := bS H
                 obtain ⟨⟨t1132, t1133, t1134, t1135⟩, A46, H⟩ := H
                 try dsimp only at H
                 by_cases c47 : t1135 = true
                 ·
                  subst c47
                  rw [if_pos rfl] at H
                  try dsimp only at H
                  replace H := bS H
                  obtain ⟨t1137, A48, H⟩ := H
                  try dsimp only at H
                  by_cases c49 : t1137 = true
                  ·
                   subst c49
                   rw [if_pos rfl] at H
                   try dsimp only at H
                   have H' := Aside0.mk H
                   clear H
                   have p1129 : 0 ≤ (x61_3 : Int) := dA
                   have q1129 : x61_3 < (x11_1.length : Int) := dA
                   obtain ⟨ad1129, e1129, hx1129_0, hx1129_1, hx1129_2, hx1129_3⟩ := at_T26 (Kd.R_reads' HO_59.out).2.2 x61_3 p1129 q1129
                   cases e1129
                   replace p1129 := eq_true p1129
                   replace q1129 := eq_true q1129
                   try go_wp2_with (first | ((with_reducible refine gate_dst (N := 17) rfl ?_); refine box_event ?hg (N := 17) ?hd (cs := #[.int .i64 0, .int .i64 0, .int .i64 0, .int .i64 0]) (t := 26) ?hr ?_; (case hd => rfl); (case hg => rfl); (case hr => first | (go_simp; done) | (go_simp; rfl)); intro gb1130 hg w50 hbox hb; have n0_ := Aside0.mk (Kd.R_below (Kd.R_elderB (rA HO_11) gb1130 (Nat.le_of_eq hg.symm)) hb); have n1_ := Aside0.mk (Kd.R_below (rA HO_14) hb); have n2_ := Aside0.mk (Kd.R_below (Kd.R_elderB (rA HO_59) gb1130 (Nat.le_of_eq hg.symm)) hb); have n3_ := kB BK1110 hb; have n4_ := lB hb; have n5_ := Aside0.mk (hbox); have n6_ := sA hg; have n7_ := sA hg; have n8_ := nA hg BK1110; have n9_ := nB hg BK1110; clear HO_11; clear HO_14; clear HO_59; clear BK1110; clear HB; have HO_11 := n0_; have HO_14 := n1_; have HO_59 := n2_; have BK1110 := n3_; have HB := n4_; have BK1130 := n5_; have GW1130 := n6_; have GE1130 := n7_; have NB1110_1130 := n8_; have NB1130_1110 := n9_; clear n0_ n1_ n2_ n3_ n4_ n5_ n6_ n7_ n8_ n9_; clear hb hbox hg; have hnb51 := NB1130_1110.out; have hnc51 := NB1110_1130.out; obtain ⟨hcz52_0, hcz52_1, hcz52_2, hcz52_3, hfz52_0, hfz52_1, hfz52_2, hfz52_3⟩ := cz4 BK1130))
                   have n0_ : Aside0 (Kd.R k26 26 ((((w50.setCell ⟨gb1130, 0, none⟩ (.int .i64 ((rd_T26 x11_1 x61_3).f0.f0))).setCell ⟨gb1130, 1, none⟩ (.int .i64 ((rd_T26 x11_1 x61_3).f0.f1))).setCell ⟨gb1130, 2, none⟩ (.int .i64 ((rd_T26 x11_1 x61_3).f1.f0))).setCell ⟨gb1130, 3, none⟩ (.int .i64 ((rd_T26 x11_1 x61_3).f1.f1))) w.heap.size (fun k_ => k_ ≠ gb1130) (.slice (some ad1129) x11_1.length co40) x11_1) := ⟨by (with_reducible repeat (first | apply Kd.R_alloc | apply Kd.R_drewN | apply Kd.R_drew)); exact Kd.R_mono (Kd.R_far (p := ⟨gb1130, 3, none⟩) (Kd.R_far (p := ⟨gb1130, 2, none⟩) (Kd.R_far (p := ⟨gb1130, 1, none⟩) (Kd.R_far (p := ⟨gb1130, 0, none⟩) (Kd.R_mono HO_11.out (fun k_ hk => (⟨hk, hk.2⟩ : _ ∧ k_ ≠ gb1130))) (fun _ hk => hk.2) (.int .i64 ((rd_T26 x11_1 x61_3).f0.f0))) (fun _ hk => hk.2) (.int .i64 ((rd_T26 x11_1 x61_3).f0.f1))) (fun _ hk => hk.2) (.int .i64 ((rd_T26 x11_1 x61_3).f1.f0))) (fun _ hk => hk.2) (.int .i64 ((rd_T26 x11_1 x61_3).f1.f1))) (fun _ hk => hk.1.2)⟩
                   have n1_ : Aside0 (Kd.R k39 39 ((((w50.setCell ⟨gb1130, 0, none⟩ (.int .i64 ((rd_T26 x11_1 x61_3).f0.f0))).setCell ⟨gb1130, 1, none⟩ (.int .i64 ((rd_T26 x11_1 x61_3).f0.f1))).setCell ⟨gb1130, 2, none⟩ (.int .i64 ((rd_T26 x11_1 x61_3).f1.f0))).setCell ⟨gb1130, 3, none⟩ (.int .i64 ((rd_T26 x11_1 x61_3).f1.f1))) w.heap.size (fun k_ => k_ ≠ gb1110) u14 x14_3) := ⟨by (with_reducible repeat (first | apply Kd.R_alloc | apply Kd.R_drewN | apply Kd.R_drew)); exact Kd.R_mono (Kd.R_far (p := ⟨gb1130, 3, none⟩) (Kd.R_far (p := ⟨gb1130, 2, none⟩) (Kd.R_far (p := ⟨gb1130, 1, none⟩) (Kd.R_far (p := ⟨gb1130, 0, none⟩) (Kd.R_types HO_14.out BK1130.out (by decide)) (fun _ hk => hk.2) (.int .i64 ((rd_T26 x11_1 x61_3).f0.f0))) (fun _ hk => hk.2) (.int .i64 ((rd_T26 x11_1 x61_3).f0.f1))) (fun _ hk => hk.2) (.int .i64 ((rd_T26 x11_1 x61_3).f1.f0))) (fun _ hk => hk.2) (.int .i64 ((rd_T26 x11_1 x61_3).f1.f1))) (fun _ hk => hk.1)⟩
                   have n2_ : Aside0 (Kd.R k26 26 ((((w50.setCell ⟨gb1130, 0, none⟩ (.int .i64 ((rd_T26 x11_1 x61_3).f0.f0))).setCell ⟨gb1130, 1, none⟩ (.int .i64 ((rd_T26 x11_1 x61_3).f0.f1))).setCell ⟨gb1130, 2, none⟩ (.int .i64 ((rd_T26 x11_1 x61_3).f1.f0))).setCell ⟨gb1130, 3, none⟩ (.int .i64 ((rd_T26 x11_1 x61_3).f1.f1))) w.heap.size (fun k_ => k_ ≠ gb1130) (.slice (some ad1129) x11_1.length co40) x11_1) := ⟨by (with_reducible repeat (first | apply Kd.R_alloc | apply Kd.R_drewN | apply Kd.R_drew)); exact Kd.R_mono (Kd.R_far (p := ⟨gb1130, 3, none⟩) (Kd.R_far (p := ⟨gb1130, 2, none⟩) (Kd.R_far (p := ⟨gb1130, 1, none⟩) (Kd.R_far (p := ⟨gb1130, 0, none⟩) (Kd.R_mono HO_59.out (fun k_ hk => (⟨hk, hk.2⟩ : _ ∧ k_ ≠ gb1130))) (fun _ hk => hk.2) (.int .i64 ((rd_T26 x11_1 x61_3).f0.f0))) (fun _ hk => hk.2) (.int .i64 ((rd_T26 x11_1 x61_3).f0.f1))) (fun _ hk => hk.2) (.int .i64 ((rd_T26 x11_1 x61_3).f1.f0))) (fun _ hk => hk.2) (.int .i64 ((rd_T26 x11_1 x61_3).f1.f1))) (fun _ hk => hk.1.2)⟩
                   have n3_ : Aside0 (((((w50.setCell ⟨gb1130, 0, none⟩ (.int .i64 ((rd_T26 x11_1 x61_3).f0.f0))).setCell ⟨gb1130, 1, none⟩ (.int .i64 ((rd_T26 x11_1 x61_3).f0.f1))).setCell ⟨gb1130, 2, none⟩ (.int .i64 ((rd_T26 x11_1 x61_3).f1.f0))).setCell ⟨gb1130, 3, none⟩ (.int .i64 ((rd_T26 x11_1 x61_3).f1.f1))).heap[gb1110]? = some (.cells #[.int .i64 a2_0, .int .i64 a2_1, .int .i64 a2_2] 39 (0, 0))) := ⟨bkF BK1110⟩
                   have n4_ : Aside0 (((((w50.setCell ⟨gb1130, 0, none⟩ (.int .i64 ((rd_T26 x11_1 x61_3).f0.f0))).setCell ⟨gb1130, 1, none⟩ (.int .i64 ((rd_T26 x11_1 x61_3).f0.f1))).setCell ⟨gb1130, 2, none⟩ (.int .i64 ((rd_T26 x11_1 x61_3).f1.f0))).setCell ⟨gb1130, 3, none⟩ (.int .i64 ((rd_T26 x11_1 x61_3).f1.f1))).heap[gb1130]? = some (.cells #[.int .i64 ((rd_T26 x11_1 x61_3).f0.f0), .int .i64 ((rd_T26 x11_1 x61_3).f0.f1), .int .i64 ((rd_T26 x11_1 x61_3).f1.f0), .int .i64 ((rd_T26 x11_1 x61_3).f1.f1)] 26 (0, 0))) := ⟨by refine dr ?_; refine blk_put (cs := #[.int .i64 ((rd_T26 x11_1 x61_3).f0.f0), .int .i64 ((rd_T26 x11_1 x61_3).f0.f1), .int .i64 ((rd_T26 x11_1 x61_3).f1.f0), .int .i64 0]) ?_ 3 _ rfl; refine dr ?_; refine blk_put (cs := #[.int .i64 ((rd_T26 x11_1 x61_3).f0.f0), .int .i64 ((rd_T26 x11_1 x61_3).f0.f1), .int .i64 0, .int .i64 0]) ?_ 2 _ rfl; refine dr ?_; refine blk_put (cs := #[.int .i64 ((rd_T26 x11_1 x61_3).f0.f0), .int .i64 0, .int .i64 0, .int .i64 0]) ?_ 1 _ rfl; refine dr ?_; refine blk_put (cs := #[.int .i64 0, .int .i64 0, .int .i64 0, .int .i64 0]) ?_ 0 _ rfl; exact bkA BK1130⟩
                   have n5_ : Aside0 (Below w.heap.size w ((((w50.setCell ⟨gb1130, 0, none⟩ (.int .i64 ((rd_T26 x11_1 x61_3).f0.f0))).setCell ⟨gb1130, 1, none⟩ (.int .i64 ((rd_T26 x11_1 x61_3).f0.f1))).setCell ⟨gb1130, 2, none⟩ (.int .i64 ((rd_T26 x11_1 x61_3).f1.f0))).setCell ⟨gb1130, 3, none⟩ (.int .i64 ((rd_T26 x11_1 x61_3).f1.f1)))) := ⟨blA⟩
                   (try clear HO_11)
                   (try clear HO_14)
                   (try clear HO_59)
                   (try clear BK1110)
                   (try clear BK1130)
                   (try clear HB)
                   generalize ((((w50.setCell ⟨gb1130, 0, none⟩ (.int .i64 ((rd_T26 x11_1 x61_3).f0.f0))).setCell ⟨gb1130, 1, none⟩ (.int .i64 ((rd_T26 x11_1 x61_3).f0.f1))).setCell ⟨gb1130, 2, none⟩ (.int .i64 ((rd_T26 x11_1 x61_3).f1.f0))).setCell ⟨gb1130, 3, none⟩ (.int .i64 ((rd_T26 x11_1 x61_3).f1.f1))) = w53 at n0_ n1_ n2_ n3_ n4_ n5_ ⊢
                   have HO_11 := n0_
                   have HO_14 := n1_
                   have HO_59 := n2_
                   have BK1110 := n3_
                   have BK1130 := n4_
                   have HB := n5_
                   clear n0_ n1_ n2_ n3_ n4_ n5_
                   have n0_ := Aside0.mk (Kd.R_drew HO_11.out)
                   have n1_ := Aside0.mk (Kd.R_drew HO_14.out)
                   have n2_ := Aside0.mk (Kd.R_drew HO_59.out)
                   have n3_ := Aside0.mk (blk_drew BK1110.out)
                   have n4_ := Aside0.mk (blk_drew BK1130.out)
                   have n5_ := Aside0.mk (below_drew1 HB.out)
                   clear HO_11
                   clear HO_14
                   clear HO_59
                   clear BK1110
                   clear BK1130
                   clear HB
                   have HO_11 := n0_
                   have HO_14 := n1_
                   have HO_59 := n2_
                   have BK1110 := n3_
                   have BK1130 := n4_
                   have HB := n5_
                   clear n0_ n1_ n2_ n3_ n4_ n5_
                   obtain ⟨Ao55, co55, eo55⟩ := Kd.R_slice HO_14.out
                   (first | subst eo55 | (injection eo55 with f1_ f2_ f3_; have f4_ := f1_.symm; have f5_ := f3_.symm; clear f1_ f2_ f3_; subst f4_; subst f5_))
                   have p1131 : 0 ≤ (x15_2 : Int) := dA
                   have q1131 : x15_2 < (x14_3.length : Int) := dA
                   obtain ⟨ad1131, e1131, hx1131_0, hx1131_1, hx1131_2⟩ := at_T39 (Kd.R_reads' HO_14.out).2.2 x15_2 p1131 q1131
                   cases e1131
                   replace p1131 := eq_true p1131
                   replace q1131 := eq_true q1131
                   refine start_ (n := 13) (S := fun w' => w'.cell? ⟨gb1130, 0, none⟩ = some (.int .i64 ((rd_T26 x11_1 x61_3).f0.f0)) ∧ w'.cell? ⟨gb1130, 1, none⟩ = some (.int .i64 ((rd_T26 x11_1 x61_3).f0.f1)) ∧ w'.cell? ⟨gb1130, 2, none⟩ = some (.int .i64 ((rd_T26 x11_1 x61_3).f1.f0)) ∧ w'.cell? ⟨gb1130, 3, none⟩ = some (.int .i64 ((rd_T26 x11_1 x61_3).f1.f1)) ∧ w'.cell? (ad1131.add ((x15_2).toNat * 3)) = some (.int .i64 ((rd_T39 x14_3 x15_2).f0)) ∧ w'.cell? ⟨(ad1131.add ((x15_2).toNat * 3)).block, (ad1131.add ((x15_2).toNat * 3)).off + 1, none⟩ = some (.int .i64 ((rd_T39 x14_3 x15_2).f1)) ∧ w'.cell? ⟨(ad1131.add ((x15_2).toNat * 3)).block, (ad1131.add ((x15_2).toNat * 3)).off + 2, none⟩ = some (.int .i64 ((rd_T39 x14_3 x15_2).f2))) (ds := []) #[Z, Z, Z, Z, Z, Z, Z, Z, Z, Z, Z, Z, Z] (by kernel_rfl) rfl rfl ⟨cA BK1130 0, cA BK1130 1, cA BK1130 2, cA BK1130 3, hx1131_0, hx1131_1, hx1131_2⟩ (fun hHeld => ?_); refine with_tabW impl_OrbitIn.tab21 impl_OrbitIn.bits21 (fun HT_ HW_ => ?_)
                   generalize w53.drew = w54 at HO_11 HO_14 HO_59 BK1110 BK1130 HB hx1131_0 hx1131_1 hx1131_2 hHeld ⊢
                   refine puA (i := 0) (N := some 66) #[Y, Z, Z, Z, Z, Z, Z, Z, Z, Z, Z, Z, Z] rfl rfl HT_ ?_
                   refine puA (i := 2) (N := some 68) #[Y, Z, Y, Z, Z, Z, Z, Z, Z, Z, Z, Z, Z] rfl rfl HT_ ?_
                   refine puA (i := 3) (N := some 69) #[Y, Z, Y, Y, Z, Z, Z, Z, Z, Z, Z, Z, Z] rfl rfl HT_ ?_
                   refine puA (i := 4) (N := some 70) #[Y, Z, Y, Y, Y, Z, Z, Z, Z, Z, Z, Z, Z] rfl rfl HT_ ?_
                   refine take_ (i := 1) (N := some 67) (v := ?_) (a' := ?_) #[Y, Y, Y, Y, Y, Z, Z, Z, Z, Z, Z, Z, Z] rfl rfl (take_ofW HT_.out HW_.out (by kernel_rfl)) (fun _ _ _ h => h) (Or.inl ⟨by rfl, ?_⟩) hHeld ?_ ?_
                   rotate_left
                   ·
                    rintro w' ⟨s0, s1, s2, s3, s4, s5, s6⟩
                    go_simp
                    with_reducible rfl
                   rotate_left
                   ·
                    simp only [pA]
                    rfl
                   refine take_ (i := 5) (N := some 71) (v := ?_) (a' := ?_) #[Y, Y, Y, Y, Y, Y, Z, Z, Z, Z, Z, Z, Z] rfl rfl (take_ofW HT_.out HW_.out (by kernel_rfl)) (fun _ _ _ h => h) (Or.inl ⟨by rfl, ?_⟩) hHeld ?_ ?_
                   rotate_left
                   ·
                    rintro w' ⟨s0, s1, s2, s3, s4, s5, s6⟩
                    go_simp
                    with_reducible rfl
                   rotate_left
                   ·
                    simp only [pA]
                    rfl
                   refine join_ (σ := Nat) 2 #[Y, Y, Y, Y, Y, Y, Y, Y, Y, Y, Y, Z, Z] (fun s_ => [(72, .tuple #[.agg #[.int .i64 t1132, .int .i64 t1133, .int .i64 t1134], .bool true]), (18, .pointer (some ⟨s_, 0, none⟩)), (65, .tuple #[.agg #[.int .i64 t1132, .int .i64 t1133, .int .i64 t1134], .bool true]), (73, .agg #[.int .i64 t1132, .int .i64 t1133, .int .i64 t1134]), (74, .bool true)]) (fun s_ w' => (w'.cell? ⟨gb1130, 0, none⟩ = some (.int .i64 ((rd_T26 x11_1 x61_3).f0.f0)) ∧ w'.cell? ⟨gb1130, 1, none⟩ = some (.int .i64 ((rd_T26 x11_1 x61_3).f0.f1)) ∧ w'.cell? ⟨gb1130, 2, none⟩ = some (.int .i64 ((rd_T26 x11_1 x61_3).f1.f0)) ∧ w'.cell? ⟨gb1130, 3, none⟩ = some (.int .i64 ((rd_T26 x11_1 x61_3).f1.f1)) ∧ w'.cell? (ad1131.add ((x15_2).toNat * 3)) = some (.int .i64 ((rd_T39 x14_3 x15_2).f0)) ∧ w'.cell? ⟨(ad1131.add ((x15_2).toNat * 3)).block, (ad1131.add ((x15_2).toNat * 3)).off + 1, none⟩ = some (.int .i64 ((rd_T39 x14_3 x15_2).f1)) ∧ w'.cell? ⟨(ad1131.add ((x15_2).toNat * 3)).block, (ad1131.add ((x15_2).toNat * 3)).off + 2, none⟩ = some (.int .i64 ((rd_T39 x14_3 x15_2).f2))) ∧ (Kd.R k26 26 w' w.heap.size (fun k_ => k_ ≠ gb1130) (.slice (some ad1129) x11_1.length co40) x11_1) ∧ (Kd.R k39 39 w' w.heap.size (fun k_ => k_ ≠ gb1110 ∧ k_ ≠ s_) (.slice (some ad1131) x14_3.length co55) x14_3) ∧ (Kd.R k26 26 w' w.heap.size (fun k_ => k_ ≠ gb1130) (.slice (some ad1129) x11_1.length co40) x11_1) ∧ (w'.heap[gb1110]? = some (.cells #[.int .i64 a2_0, .int .i64 a2_1, .int .i64 a2_2] 39 (0, 0))) ∧ (w'.heap[gb1130]? = some (.cells #[.int .i64 ((rd_T26 x11_1 x61_3).f0.f0), .int .i64 ((rd_T26 x11_1 x61_3).f0.f1), .int .i64 ((rd_T26 x11_1 x61_3).f1.f0), .int .i64 ((rd_T26 x11_1 x61_3).f1.f1)] 26 (0, 0))) ∧ (w'.heap[s_]? = some (.cells #[.int .i64 0, .int .i64 0, .int .i64 0] 39 (0, 0))) ∧ (w.heap.size ≤ s_) ∧ (w.heap.size ≤ s_) ∧ (gb1110 ≠ s_) ∧ (s_ ≠ gb1110) ∧ (gb1130 ≠ s_) ∧ (s_ ≠ gb1130) ∧ (Below w.heap.size w w')) ?_ ?_
                   rotate_left
                   ·
                    intro hCont
                    refine two_ (i := 6) (j := 10) (Ni := some 72) (Nj := some 18) #[Y, Y, Y, Y, Y, Y, Y, Z, Z, Z, Z, Z, Z] #[Y, Y, Y, Y, Y, Y, Z, Z, Z, Z, Y, Z, Z] rfl rfl rfl rfl (two_of HT_.out (by kernel_rfl)) (by decide) (by decide) (fun K hK => ?_) (fun K hK => ?_)
                    ·
                     skip
                     refine goes_ Try.func68 (by kernel_rfl) rfl #[.int .i64 a0, .agg #[.int .i64 ((rd_T26 x11_1 x61_3).f0.f0), .int .i64 ((rd_T26 x11_1 x61_3).f0.f1), .int .i64 ((rd_T26 x11_1 x61_3).f1.f0), .int .i64 ((rd_T26 x11_1 x61_3).f1.f1)], .agg #[.int .i64 ((rd_T39 x14_3 x15_2).f0), .int .i64 ((rd_T39 x14_3 x15_2).f1), .int .i64 ((rd_T39 x14_3 x15_2).f2)]] (by rfl) rfl rfl hA ?_
                     with_reducible refine (impl_moveBall.calls k3 a0 ((rd_T26 x11_1 x61_3).f0.f0) ((rd_T26 x11_1 x61_3).f0.f1) ((rd_T26 x11_1 x61_3).f1.f0) ((rd_T26 x11_1 x61_3).f1.f1) ((rd_T39 x14_3 x15_2).f0) ((rd_T39 x14_3 x15_2).f1) ((rd_T39 x14_3 x15_2).f2) t1132 t1133 t1134 true _ A46.out).mono ?_
                     rintro e w56 ⟨rfl, hb⟩
                     have HS4_ := (hb.cell (World.block_lt_of_cell? _ _ (hHeld.2.2.2.2.1))).trans (hHeld.2.2.2.2.1)
                     have HS5_ := (hb.cell (World.block_lt_of_cell? _ _ (hHeld.2.2.2.2.2.1))).trans (hHeld.2.2.2.2.2.1)
                     have HS6_ := (hb.cell (World.block_lt_of_cell? _ _ (hHeld.2.2.2.2.2.2))).trans (hHeld.2.2.2.2.2.2)
                     refine ⟨_, rfl, ?_⟩
                     replace HO_11 := Aside0.mk (Kd.R_below (rA HO_11) hb)
                     replace HO_14 := Aside0.mk (Kd.R_below (rA HO_14) hb)
                     replace HO_59 := Aside0.mk (Kd.R_below (rA HO_59) hb)
                     replace BK1110 := kB BK1110 hb
                     replace BK1130 := kB BK1130 hb
                     replace HB := lB hb
                     (try clear hb)
                     (try clear hb2)
                     (try clear hk)
                     (try clear hi)
                     refine hK.out _ _ ⟨cA BK1130 0, cA BK1130 1, cA BK1130 2, cA BK1130 3, HS4_, HS5_, HS6_⟩ (fun hHeld => ?_)
                     clear hK K
                     refine norm_ (a' := ?_) ?_ ?_
                     rotate_left
                     ·
                      show Act.put _ (some 72) _ = _
                      simp only [pA]
                      rfl
                     refine puA (i := 7) (N := some 65) #[Y, Y, Y, Y, Y, Y, Y, Y, Z, Z, Z, Z, Z] rfl rfl HT_ ?_
                     refine puA (i := 8) (N := some 73) #[Y, Y, Y, Y, Y, Y, Y, Y, Y, Z, Z, Z, Z] rfl rfl HT_ ?_
                     refine puA (i := 9) (N := some 74) #[Y, Y, Y, Y, Y, Y, Y, Y, Y, Y, Z, Z, Z] rfl rfl HT_ ?_
                     refine one_ (i := 10) (N := some 18) #[Y, Y, Y, Y, Y, Y, Y, Y, Y, Y, Y, Z, Z] rfl rfl (one_of HT_.out (by kernel_rfl)) (by decide) (fun K hK => ?_)
                     refine box_step ?hg (N := 18) ?hd (cs := #[.int .i64 0, .int .i64 0, .int .i64 0]) (t := 39) ?hr ?_; (case hd => rfl); (case hg => rfl); (case hr => first | (go_simp; done) | (go_simp; rfl))
                     intro gb1136 hg w57 hbox hb
                     have HS4_ := (hb.cell (World.block_lt_of_cell? _ _ (hHeld.2.2.2.2.1))).trans (hHeld.2.2.2.2.1)
                     have HS5_ := (hb.cell (World.block_lt_of_cell? _ _ (hHeld.2.2.2.2.2.1))).trans (hHeld.2.2.2.2.2.1)
                     have HS6_ := (hb.cell (World.block_lt_of_cell? _ _ (hHeld.2.2.2.2.2.2))).trans (hHeld.2.2.2.2.2.2)
                     have BK1136 := Aside0.mk (hbox)
                     have GW1136 := sA hg
                     have GE1136 := sA hg
                     have NB1110_1136 := nA hg BK1110
                     have NB1136_1110 := nB hg BK1110
                     have NB1130_1136 := nA hg BK1130
                     have NB1136_1130 := nB hg BK1130
                     replace HO_11 := Aside0.mk (Kd.R_below (rA HO_11) hb)
                     replace HO_14 := Aside0.mk (Kd.R_below (Kd.R_elderB (rA HO_14) gb1136 (Nat.le_of_eq hg.symm)) hb)
                     replace HO_59 := Aside0.mk (Kd.R_below (rA HO_59) hb)
                     replace BK1110 := kB BK1110 hb
                     replace BK1130 := kB BK1130 hb
                     replace HB := lB hb
                     clear hb hbox hg
                     refine hK.out _ _ ⟨cA BK1130 0, cA BK1130 1, cA BK1130 2, cA BK1130 3, HS4_, HS5_, HS6_⟩ (fun hHeld => ?_)
                     clear hK K
                     refine norm_ (a' := ?_) ?_ ?_
                     rotate_left
                     ·
                      show Act.put _ (some 18) _ = _
                      simp only [pA]
                      rfl
                     exact norm_ (by simp only [putAll, Act.put, List.setIfInBounds_toArray, List.set_cons_zero, List.set_cons_succ]) (hCont (gb1136) _ ⟨hHeld, (rA HO_11), (rA HO_14), (rA HO_59), (bkA BK1110), (bkA BK1130), (bkA BK1136), GW1136.out, GE1136.out, NB1110_1136.out, NB1136_1110.out, NB1130_1136.out, NB1136_1130.out, blA⟩)
                    ·
                     skip
                     refine box_step ?hg (N := 18) ?hd (cs := #[.int .i64 0, .int .i64 0, .int .i64 0]) (t := 39) ?hr ?_; (case hd => rfl); (case hg => rfl); (case hr => first | (go_simp; done) | (go_simp; rfl))
                     intro gb1136 hg w56 hbox hb
                     have HS4_ := (hb.cell (World.block_lt_of_cell? _ _ (hHeld.2.2.2.2.1))).trans (hHeld.2.2.2.2.1)
                     have HS5_ := (hb.cell (World.block_lt_of_cell? _ _ (hHeld.2.2.2.2.2.1))).trans (hHeld.2.2.2.2.2.1)
                     have HS6_ := (hb.cell (World.block_lt_of_cell? _ _ (hHeld.2.2.2.2.2.2))).trans (hHeld.2.2.2.2.2.2)
                     have BK1136 := Aside0.mk (hbox)
                     have GW1136 := sA hg
                     have GE1136 := sA hg
                     have NB1110_1136 := nA hg BK1110
                     have NB1136_1110 := nB hg BK1110
                     have NB1130_1136 := nA hg BK1130
                     have NB1136_1130 := nB hg BK1130
                     replace HO_11 := Aside0.mk (Kd.R_below (rA HO_11) hb)
                     replace HO_14 := Aside0.mk (Kd.R_below (Kd.R_elderB (rA HO_14) gb1136 (Nat.le_of_eq hg.symm)) hb)
                     replace HO_59 := Aside0.mk (Kd.R_below (rA HO_59) hb)
                     replace BK1110 := kB BK1110 hb
                     replace BK1130 := kB BK1130 hb
                     replace HB := lB hb
                     clear hb hbox hg
                     refine hK.out _ _ ⟨cA BK1130 0, cA BK1130 1, cA BK1130 2, cA BK1130 3, HS4_, HS5_, HS6_⟩ (fun hHeld => ?_)
                     clear hK K
                     refine norm_ (a' := ?_) ?_ ?_
                     rotate_left
                     ·
                      show Act.put _ (some 18) _ = _
                      simp only [pA]
                      rfl
                     refine one_ (i := 6) (N := some 72) #[Y, Y, Y, Y, Y, Y, Y, Z, Z, Z, Y, Z, Z] rfl rfl (one_of HT_.out (by kernel_rfl)) (by decide) (fun K hK => ?_)
                     refine goes_ Try.func68 (by kernel_rfl) rfl #[.int .i64 a0, .agg #[.int .i64 ((rd_T26 x11_1 x61_3).f0.f0), .int .i64 ((rd_T26 x11_1 x61_3).f0.f1), .int .i64 ((rd_T26 x11_1 x61_3).f1.f0), .int .i64 ((rd_T26 x11_1 x61_3).f1.f1)], .agg #[.int .i64 ((rd_T39 x14_3 x15_2).f0), .int .i64 ((rd_T39 x14_3 x15_2).f1), .int .i64 ((rd_T39 x14_3 x15_2).f2)]] (by rfl) rfl rfl hA ?_
                     with_reducible refine (impl_moveBall.calls k3 a0 ((rd_T26 x11_1 x61_3).f0.f0) ((rd_T26 x11_1 x61_3).f0.f1) ((rd_T26 x11_1 x61_3).f1.f0) ((rd_T26 x11_1 x61_3).f1.f1) ((rd_T39 x14_3 x15_2).f0) ((rd_T39 x14_3 x15_2).f1) ((rd_T39 x14_3 x15_2).f2) t1132 t1133 t1134 true _ A46.out).mono ?_
                     rintro e w57 ⟨rfl, hb⟩
                     have HS4_ := (hb.cell (World.block_lt_of_cell? _ _ (hHeld.2.2.2.2.1))).trans (hHeld.2.2.2.2.1)
                     have HS5_ := (hb.cell (World.block_lt_of_cell? _ _ (hHeld.2.2.2.2.2.1))).trans (hHeld.2.2.2.2.2.1)
                     have HS6_ := (hb.cell (World.block_lt_of_cell? _ _ (hHeld.2.2.2.2.2.2))).trans (hHeld.2.2.2.2.2.2)
                     refine ⟨_, rfl, ?_⟩
                     replace HO_11 := Aside0.mk (Kd.R_below (rA HO_11) hb)
                     replace HO_14 := Aside0.mk (Kd.R_below (rA HO_14) hb)
                     replace HO_59 := Aside0.mk (Kd.R_below (rA HO_59) hb)
                     replace BK1110 := kB BK1110 hb
                     replace BK1130 := kB BK1130 hb
                     replace BK1136 := kB BK1136 hb
                     replace HB := lB hb
                     (try clear hb)
                     (try clear hb2)
                     (try clear hk)
                     (try clear hi)
                     refine hK.out _ _ ⟨cA BK1130 0, cA BK1130 1, cA BK1130 2, cA BK1130 3, HS4_, HS5_, HS6_⟩ (fun hHeld => ?_)
                     clear hK K
                     refine norm_ (a' := ?_) ?_ ?_
                     rotate_left
                     ·
                      show Act.put _ (some 72) _ = _
                      simp only [pA]
                      rfl
                     refine puA (i := 7) (N := some 65) #[Y, Y, Y, Y, Y, Y, Y, Y, Z, Z, Y, Z, Z] rfl rfl HT_ ?_
                     refine puA (i := 8) (N := some 73) #[Y, Y, Y, Y, Y, Y, Y, Y, Y, Z, Y, Z, Z] rfl rfl HT_ ?_
                     refine puA (i := 9) (N := some 74) #[Y, Y, Y, Y, Y, Y, Y, Y, Y, Y, Y, Z, Z] rfl rfl HT_ ?_
                     exact norm_ (by simp only [putAll, Act.put, List.setIfInBounds_toArray, List.set_cons_zero, List.set_cons_succ]) (hCont (gb1136) _ ⟨hHeld, (rA HO_11), (rA HO_14), (rA HO_59), (bkA BK1110), (bkA BK1130), (bkA BK1136), GW1136.out, GE1136.out, NB1110_1136.out, NB1136_1110.out, NB1130_1136.out, NB1136_1130.out, blA⟩)
                   rintro gb1136 w58 ⟨hS_, h0_, h1_, h2_, h3_, h4_, h5_, h6_, h7_, h8_, h9_, h10_, h11_, h12_⟩
                   have BK1136 := Aside0.mk h5_
                   have GW1136 := Aside0.mk h6_
                   have GE1136 := Aside0.mk h7_
                   have NB1110_1136 := Aside0.mk h8_
                   have NB1136_1110 := Aside0.mk h9_
                   have NB1130_1136 := Aside0.mk h10_
                   have NB1136_1130 := Aside0.mk h11_
                   replace HO_11 := Aside0.mk h0_
                   replace HO_14 := Aside0.mk h1_
                   replace HO_59 := Aside0.mk h2_
                   replace BK1110 := Aside0.mk h3_
                   replace BK1130 := Aside0.mk h4_
                   replace HB := Aside0.mk h12_
                   clear h0_ h1_ h2_ h3_ h4_ h5_ h6_ h7_ h8_ h9_ h10_ h11_ h12_
                   have hHeld : w58.cell? ⟨gb1130, 0, none⟩ = some (.int .i64 ((rd_T26 x11_1 x61_3).f0.f0)) ∧ w58.cell? ⟨gb1130, 1, none⟩ = some (.int .i64 ((rd_T26 x11_1 x61_3).f0.f1)) ∧ w58.cell? ⟨gb1130, 2, none⟩ = some (.int .i64 ((rd_T26 x11_1 x61_3).f1.f0)) ∧ w58.cell? ⟨gb1130, 3, none⟩ = some (.int .i64 ((rd_T26 x11_1 x61_3).f1.f1)) ∧ w58.cell? (ad1131.add ((x15_2).toNat * 3)) = some (.int .i64 ((rd_T39 x14_3 x15_2).f0)) ∧ w58.cell? ⟨(ad1131.add ((x15_2).toNat * 3)).block, (ad1131.add ((x15_2).toNat * 3)).off + 1, none⟩ = some (.int .i64 ((rd_T39 x14_3 x15_2).f1)) ∧ w58.cell? ⟨(ad1131.add ((x15_2).toNat * 3)).block, (ad1131.add ((x15_2).toNat * 3)).off + 2, none⟩ = some (.int .i64 ((rd_T39 x14_3 x15_2).f2)) := hS_
                   refine norm_ (a' := ?_) ?_ ?_
                   rotate_left
                   ·
                    simp only [putAll, Act.put, List.setIfInBounds_toArray, List.set_cons_zero, List.set_cons_succ]
                    rfl
                   refine one_ (i := 11) (N := none) #[Y, Y, Y, Y, Y, Y, Y, Y, Y, Y, Y, Y, Z] rfl rfl (one_of HT_.out (by kernel_rfl)) (by decide) (fun K hK => ?_)
                   have hs59 : w58.cell? ⟨gb1136, 0, none⟩ = some (.int .i64 0) := cA BK1136 0
                   have hfs59 := blk_frozen BK1136.out 0
                   have hns59_0 := NB1110_1136.out
                   have hns59_1 := NB1130_1136.out
                   have hms59_0 := NB1136_1110.out
                   have hms59_1 := NB1136_1130.out
                   have hs60 : w58.cell? ⟨gb1136, 1, none⟩ = some (.int .i64 0) := cA BK1136 1
                   have hfs60 := blk_frozen BK1136.out 1
                   have hns60_0 := NB1110_1136.out
                   have hns60_1 := NB1130_1136.out
                   have hms60_0 := NB1136_1110.out
                   have hms60_1 := NB1136_1130.out
                   have hs61 : w58.cell? ⟨gb1136, 2, none⟩ = some (.int .i64 0) := cA BK1136 2
                   have hfs61 := blk_frozen BK1136.out 2
                   have hns61_0 := NB1110_1136.out
                   have hns61_1 := NB1130_1136.out
                   have hms61_0 := NB1136_1110.out
                   have hms61_1 := NB1136_1130.out
                   refine skip_ (w1 := ?_) (by rfl) rfl ?_ ?_
                   rotate_left
                   ·
                    go_simp
                    rfl
                   refine hK.out _ _ ⟨((cell_far (p := ⟨gb1136, _, none⟩) NB1130_1136.out _).trans (((cell_far (p := ⟨gb1136, _, none⟩) NB1130_1136.out _).trans (((cell_far (p := ⟨gb1136, _, none⟩) NB1130_1136.out _).trans (hHeld.1)))))), ((cell_far (p := ⟨gb1136, _, none⟩) NB1130_1136.out _).trans (((cell_far (p := ⟨gb1136, _, none⟩) NB1130_1136.out _).trans (((cell_far (p := ⟨gb1136, _, none⟩) NB1130_1136.out _).trans (hHeld.2.1)))))), ((cell_far (p := ⟨gb1136, _, none⟩) NB1130_1136.out _).trans (((cell_far (p := ⟨gb1136, _, none⟩) NB1130_1136.out _).trans (((cell_far (p := ⟨gb1136, _, none⟩) NB1130_1136.out _).trans (hHeld.2.2.1)))))), ((cell_far (p := ⟨gb1136, _, none⟩) NB1130_1136.out _).trans (((cell_far (p := ⟨gb1136, _, none⟩) NB1130_1136.out _).trans (((cell_far (p := ⟨gb1136, _, none⟩) NB1130_1136.out _).trans (hHeld.2.2.2.1)))))), ((cell_far (p := ⟨gb1136, _, none⟩) (fB (Kd.own_blk (Kd.R_away HO_14.out (fun _ hk => hk.2)))) _).trans (((cell_far (p := ⟨gb1136, _, none⟩) (fB (Kd.own_blk (Kd.R_away HO_14.out (fun _ hk => hk.2)))) _).trans (((cell_far (p := ⟨gb1136, _, none⟩) (fB (Kd.own_blk (Kd.R_away HO_14.out (fun _ hk => hk.2)))) _).trans (hHeld.2.2.2.2.1)))))), ((cell_far (p := ⟨gb1136, _, none⟩) (fB (Kd.own_blk (Kd.R_away HO_14.out (fun _ hk => hk.2)))) _).trans (((cell_far (p := ⟨gb1136, _, none⟩) (fB (Kd.own_blk (Kd.R_away HO_14.out (fun _ hk => hk.2)))) _).trans (((cell_far (p := ⟨gb1136, _, none⟩) (fB (Kd.own_blk (Kd.R_away HO_14.out (fun _ hk => hk.2)))) _).trans (hHeld.2.2.2.2.2.1)))))), ((cell_far (p := ⟨gb1136, _, none⟩) (fB (Kd.own_blk (Kd.R_away HO_14.out (fun _ hk => hk.2)))) _).trans (((cell_far (p := ⟨gb1136, _, none⟩) (fB (Kd.own_blk (Kd.R_away HO_14.out (fun _ hk => hk.2)))) _).trans (((cell_far (p := ⟨gb1136, _, none⟩) (fB (Kd.own_blk (Kd.R_away HO_14.out (fun _ hk => hk.2)))) _).trans (hHeld.2.2.2.2.2.2))))))⟩ (fun hHeld => ?_)
                   clear hK K
                   refine puA (i := 12) (N := some 19) #[Y, Y, Y, Y, Y, Y, Y, Y, Y, Y, Y, Y, Y] rfl rfl HT_ ?_
                   refine done_ (done_of HT_.out (by kernel_rfl)) ?_
                   have hnb62 := NB1136_1110.out
                   have hnc62 := NB1110_1136.out
                   have hnb63 := NB1136_1130.out
                   have hnc63 := NB1130_1136.out
                   obtain ⟨hcz64_0, hcz64_1, hcz64_2, hfz64_0, hfz64_1, hfz64_2⟩ := cz3 BK1136
                   try go_wp2_with (first | (go_at_call 106; (with_reducible refine (impl_Ball_106.calls k3 _ _ x14_3 t1132 t1133 t1134 true _ ?side1 ?side2 A48.out).mono ?_); (case side1 => refine (Kd.R_reads' (e := 39) (base := w.heap.size) (ok := fun k_ => (k_ ≠ gb1110 ∧ k_ ≠ gb1136)) (n := x14_3.length) (c := co55) ?_).2.2; exact (by (with_reducible repeat (first | apply Kd.R_alloc | apply Kd.R_drewN | apply Kd.R_drew)); exact (Kd.R_mono (Kd.R_far (p := ⟨gb1136, 2, none⟩) (Kd.R_far (p := ⟨gb1136, 1, none⟩) (Kd.R_far (p := ⟨gb1136, 0, none⟩) (Kd.R_mono HO_14.out (fun k_ hk => (⟨hk, hk.2⟩ : _ ∧ k_ ≠ gb1136))) (fun _ hk => hk.2) (.int .i64 t1132)) (fun _ hk => hk.2) (.int .i64 t1133)) (fun _ hk => hk.2) (.int .i64 t1134)) (fun _ h_ => h_.1)))); (case side2 => exact (Kd.R_reads' HO_14.out).2.1); rintro e w65 ⟨rfl, hb⟩; have n0_ := Aside0.mk (Kd.R_below (by (with_reducible repeat (first | apply Kd.R_alloc | apply Kd.R_drewN | apply Kd.R_drew)); exact (Kd.R_mono (Kd.R_far (p := ⟨gb1136, 2, none⟩) (Kd.R_far (p := ⟨gb1136, 1, none⟩) (Kd.R_far (p := ⟨gb1136, 0, none⟩) (Kd.R_types HO_11.out BK1136.out (by decide)) (fun _ hk => hk.2) (.int .i64 t1132)) (fun _ hk => hk.2) (.int .i64 t1133)) (fun _ hk => hk.2) (.int .i64 t1134)) (fun _ h_ => h_.1))) hb); have n1_ := Aside0.mk (Kd.R_below (by (with_reducible repeat (first | apply Kd.R_alloc | apply Kd.R_drewN | apply Kd.R_drew)); exact (Kd.R_mono (Kd.R_far (p := ⟨gb1136, 2, none⟩) (Kd.R_far (p := ⟨gb1136, 1, none⟩) (Kd.R_far (p := ⟨gb1136, 0, none⟩) (Kd.R_mono HO_14.out (fun k_ hk => (⟨hk, hk.2⟩ : _ ∧ k_ ≠ gb1136))) (fun _ hk => hk.2) (.int .i64 t1132)) (fun _ hk => hk.2) (.int .i64 t1133)) (fun _ hk => hk.2) (.int .i64 t1134)) (fun _ h_ => h_.1))) hb); have n2_ := Aside0.mk (Kd.R_below (by (with_reducible repeat (first | apply Kd.R_alloc | apply Kd.R_drewN | apply Kd.R_drew)); exact (Kd.R_mono (Kd.R_far (p := ⟨gb1136, 2, none⟩) (Kd.R_far (p := ⟨gb1136, 1, none⟩) (Kd.R_far (p := ⟨gb1136, 0, none⟩) (Kd.R_types HO_59.out BK1136.out (by decide)) (fun _ hk => hk.2) (.int .i64 t1132)) (fun _ hk => hk.2) (.int .i64 t1133)) (fun _ hk => hk.2) (.int .i64 t1134)) (fun _ h_ => h_.1))) hb); have n3_ := Aside0.mk (blk_below (g := gb1110) (o := .cells #[.int .i64 a2_0, .int .i64 a2_1, .int .i64 a2_2] 39 (0, 0)) (bkF BK1110) hb); have n4_ := Aside0.mk (blk_below (g := gb1130) (o := .cells #[.int .i64 ((rd_T26 x11_1 x61_3).f0.f0), .int .i64 ((rd_T26 x11_1 x61_3).f0.f1), .int .i64 ((rd_T26 x11_1 x61_3).f1.f0), .int .i64 ((rd_T26 x11_1 x61_3).f1.f1)] 26 (0, 0)) (bkF BK1130) hb); have n5_ := Aside0.mk (blk_below (g := gb1136) (o := .cells #[.int .i64 t1132, .int .i64 t1133, .int .i64 t1134] 39 (0, 0)) (by refine dr ?_; refine blk_put (cs := #[.int .i64 t1132, .int .i64 t1133, .int .i64 0]) ?_ 2 _ rfl; refine dr ?_; refine blk_put (cs := #[.int .i64 t1132, .int .i64 0, .int .i64 0]) ?_ 1 _ rfl; refine dr ?_; refine blk_put (cs := #[.int .i64 0, .int .i64 0, .int .i64 0]) ?_ 0 _ rfl; exact bkA BK1136) hb); have n6_ := lB hb; clear HO_11; clear HO_14; clear HO_59; clear BK1110; clear BK1130; clear BK1136; clear HB; have HO_11 := n0_; have HO_14 := n1_; have HO_59 := n2_; have BK1110 := n3_; have BK1130 := n4_; have BK1136 := n5_; have HB := n6_; clear n0_ n1_ n2_ n3_ n4_ n5_ n6_; (try clear hb); (try clear hb2); (try clear hk); (try clear hi)))
                   go_roundg k3
                   case measure => have := HK1.out; have := HK2.out; have := HK3.out; omega
                   case rel => exact ⟨(x14_3), (wrap64 (x61_3 + 1)), hB, H', ⟨by have := HK1.out; have := HK2.out; have := HK3.out; omega⟩, ⟨by (with_reducible repeat (first | apply Kd.R_alloc | apply Kd.R_drewN | apply Kd.R_drew)); exact Kd.R_mono HO_11.out (fun _ hk => trivial)⟩, ⟨by (with_reducible repeat (first | apply Kd.R_alloc | apply Kd.R_drewN | apply Kd.R_drew)); exact Kd.R_mono HO_14.out (fun _ hk => hk.1)⟩, ⟨by (with_reducible repeat (first | apply Kd.R_alloc | apply Kd.R_drewN | apply Kd.R_drew)); exact Kd.R_mono HO_59.out (fun _ hk => trivial)⟩, ⟨bkA BK1110⟩, ⟨blA⟩⟩
                  ·
                   replace c49 := Bool.eq_false_iff.mpr c49
                   subst c49
                   rw [if_neg (show ¬ (false = true) by decide)] at H
                   try dsimp only at H
                   replace H := bS H
                   obtain ⟨t1138, A66, H⟩ := H
                   try dsimp only at H
                   by_cases c67 : t1138 ≤ a3
                   ·
                    rw [if_pos c67] at H
                    have c67b0 := decide_eq_true c67
                    clear c67
                    by_cases c68 : x14_3.length < 5864062014805
                    ·
                     rw [if_pos c68] at H
                     have LMc68 := Aside0.mk c68
                     clear c68
                     obtain ⟨y1139, hy1139⟩ : ∃ y_ : List (S39), y_ = (x14_3 ++ [(⟨t1132, t1133, t1134⟩ : S39)]) := ⟨_, rfl⟩
                     replace H : (impl_OrbitIn.l2 k3 a0 a3 x11_1 y1139 x15_2 x11_1 (x11_1.length : Int) (wrap64 (x61_3 + 1))) = some (r1, r2) := by first | (rw [hy1139]; with_reducible exact H) | (have H2_ := (Option.bind_some _ _).symm.trans H; rw [hy1139]; with_reducible exact H2_) | (have H2_ := (Option.bind_some _ _).symm.trans H; with_reducible exact H2_) | with_reducible exact H | (rw [hy1139]; exact H) | exact H
                     have Ny1139 := Aside0.mk hy1139
                     clear hy1139
                     have H' := Aside0.mk H
                     clear H
                     have p1129 : 0 ≤ (x61_3 : Int) := dA
                     have q1129 : x61_3 < (x11_1.length : Int) := dA
                     obtain ⟨ad1129, e1129, hx1129_0, hx1129_1, hx1129_2, hx1129_3⟩ := at_T26 (Kd.R_reads' HO_59.out).2.2 x61_3 p1129 q1129
                     cases e1129
                     replace p1129 := eq_true p1129
                     replace q1129 := eq_true q1129
                     try go_wp2_with (first | ((with_reducible refine gate_dst (N := 17) rfl ?_); refine box_event ?hg (N := 17) ?hd (cs := #[.int .i64 0, .int .i64 0, .int .i64 0, .int .i64 0]) (t := 26) ?hr ?_; (case hd => rfl); (case hg => rfl); (case hr => first | (go_simp; done) | (go_simp; rfl)); intro gb1130 hg w69 hbox hb; have n0_ := Aside0.mk (Kd.R_below (Kd.R_elderB (rA HO_11) gb1130 (Nat.le_of_eq hg.symm)) hb); have n1_ := Aside0.mk (Kd.R_below (rA HO_14) hb); have n2_ := Aside0.mk (Kd.R_below (Kd.R_elderB (rA HO_59) gb1130 (Nat.le_of_eq hg.symm)) hb); have n3_ := kB BK1110 hb; have n4_ := lB hb; have n5_ := Aside0.mk (hbox); have n6_ := sA hg; have n7_ := sA hg; have n8_ := nA hg BK1110; have n9_ := nB hg BK1110; clear HO_11; clear HO_14; clear HO_59; clear BK1110; clear HB; have HO_11 := n0_; have HO_14 := n1_; have HO_59 := n2_; have BK1110 := n3_; have HB := n4_; have BK1130 := n5_; have GW1130 := n6_; have GE1130 := n7_; have NB1110_1130 := n8_; have NB1130_1110 := n9_; clear n0_ n1_ n2_ n3_ n4_ n5_ n6_ n7_ n8_ n9_; clear hb hbox hg; have hnb70 := NB1130_1110.out; have hnc70 := NB1110_1130.out; obtain ⟨hcz71_0, hcz71_1, hcz71_2, hcz71_3, hfz71_0, hfz71_1, hfz71_2, hfz71_3⟩ := cz4 BK1130))
                     have n0_ : Aside0 (Kd.R k26 26 ((((w69.setCell ⟨gb1130, 0, none⟩ (.int .i64 ((rd_T26 x11_1 x61_3).f0.f0))).setCell ⟨gb1130, 1, none⟩ (.int .i64 ((rd_T26 x11_1 x61_3).f0.f1))).setCell ⟨gb1130, 2, none⟩ (.int .i64 ((rd_T26 x11_1 x61_3).f1.f0))).setCell ⟨gb1130, 3, none⟩ (.int .i64 ((rd_T26 x11_1 x61_3).f1.f1))) w.heap.size (fun k_ => k_ ≠ gb1130) (.slice (some ad1129) x11_1.length co40) x11_1) := ⟨by (with_reducible repeat (first | apply Kd.R_alloc | apply Kd.R_drewN | apply Kd.R_drew)); exact Kd.R_mono (Kd.R_far (p := ⟨gb1130, 3, none⟩) (Kd.R_far (p := ⟨gb1130, 2, none⟩) (Kd.R_far (p := ⟨gb1130, 1, none⟩) (Kd.R_far (p := ⟨gb1130, 0, none⟩) (Kd.R_mono HO_11.out (fun k_ hk => (⟨hk, hk.2⟩ : _ ∧ k_ ≠ gb1130))) (fun _ hk => hk.2) (.int .i64 ((rd_T26 x11_1 x61_3).f0.f0))) (fun _ hk => hk.2) (.int .i64 ((rd_T26 x11_1 x61_3).f0.f1))) (fun _ hk => hk.2) (.int .i64 ((rd_T26 x11_1 x61_3).f1.f0))) (fun _ hk => hk.2) (.int .i64 ((rd_T26 x11_1 x61_3).f1.f1))) (fun _ hk => hk.1.2)⟩
                     have n1_ : Aside0 (Kd.R k39 39 ((((w69.setCell ⟨gb1130, 0, none⟩ (.int .i64 ((rd_T26 x11_1 x61_3).f0.f0))).setCell ⟨gb1130, 1, none⟩ (.int .i64 ((rd_T26 x11_1 x61_3).f0.f1))).setCell ⟨gb1130, 2, none⟩ (.int .i64 ((rd_T26 x11_1 x61_3).f1.f0))).setCell ⟨gb1130, 3, none⟩ (.int .i64 ((rd_T26 x11_1 x61_3).f1.f1))) w.heap.size (fun k_ => k_ ≠ gb1110) u14 x14_3) := ⟨by (with_reducible repeat (first | apply Kd.R_alloc | apply Kd.R_drewN | apply Kd.R_drew)); exact Kd.R_mono (Kd.R_far (p := ⟨gb1130, 3, none⟩) (Kd.R_far (p := ⟨gb1130, 2, none⟩) (Kd.R_far (p := ⟨gb1130, 1, none⟩) (Kd.R_far (p := ⟨gb1130, 0, none⟩) (Kd.R_types HO_14.out BK1130.out (by decide)) (fun _ hk => hk.2) (.int .i64 ((rd_T26 x11_1 x61_3).f0.f0))) (fun _ hk => hk.2) (.int .i64 ((rd_T26 x11_1 x61_3).f0.f1))) (fun _ hk => hk.2) (.int .i64 ((rd_T26 x11_1 x61_3).f1.f0))) (fun _ hk => hk.2) (.int .i64 ((rd_T26 x11_1 x61_3).f1.f1))) (fun _ hk => hk.1)⟩
                     have n2_ : Aside0 (Kd.R k26 26 ((((w69.setCell ⟨gb1130, 0, none⟩ (.int .i64 ((rd_T26 x11_1 x61_3).f0.f0))).setCell ⟨gb1130, 1, none⟩ (.int .i64 ((rd_T26 x11_1 x61_3).f0.f1))).setCell ⟨gb1130, 2, none⟩ (.int .i64 ((rd_T26 x11_1 x61_3).f1.f0))).setCell ⟨gb1130, 3, none⟩ (.int .i64 ((rd_T26 x11_1 x61_3).f1.f1))) w.heap.size (fun k_ => k_ ≠ gb1130) (.slice (some ad1129) x11_1.length co40) x11_1) := ⟨by (with_reducible repeat (first | apply Kd.R_alloc | apply Kd.R_drewN | apply Kd.R_drew)); exact Kd.R_mono (Kd.R_far (p := ⟨gb1130, 3, none⟩) (Kd.R_far (p := ⟨gb1130, 2, none⟩) (Kd.R_far (p := ⟨gb1130, 1, none⟩) (Kd.R_far (p := ⟨gb1130, 0, none⟩) (Kd.R_mono HO_59.out (fun k_ hk => (⟨hk, hk.2⟩ : _ ∧ k_ ≠ gb1130))) (fun _ hk => hk.2) (.int .i64 ((rd_T26 x11_1 x61_3).f0.f0))) (fun _ hk => hk.2) (.int .i64 ((rd_T26 x11_1 x61_3).f0.f1))) (fun _ hk => hk.2) (.int .i64 ((rd_T26 x11_1 x61_3).f1.f0))) (fun _ hk => hk.2) (.int .i64 ((rd_T26 x11_1 x61_3).f1.f1))) (fun _ hk => hk.1.2)⟩
                     have n3_ : Aside0 (((((w69.setCell ⟨gb1130, 0, none⟩ (.int .i64 ((rd_T26 x11_1 x61_3).f0.f0))).setCell ⟨gb1130, 1, none⟩ (.int .i64 ((rd_T26 x11_1 x61_3).f0.f1))).setCell ⟨gb1130, 2, none⟩ (.int .i64 ((rd_T26 x11_1 x61_3).f1.f0))).setCell ⟨gb1130, 3, none⟩ (.int .i64 ((rd_T26 x11_1 x61_3).f1.f1))).heap[gb1110]? = some (.cells #[.int .i64 a2_0, .int .i64 a2_1, .int .i64 a2_2] 39 (0, 0))) := ⟨bkF BK1110⟩
                     have n4_ : Aside0 (((((w69.setCell ⟨gb1130, 0, none⟩ (.int .i64 ((rd_T26 x11_1 x61_3).f0.f0))).setCell ⟨gb1130, 1, none⟩ (.int .i64 ((rd_T26 x11_1 x61_3).f0.f1))).setCell ⟨gb1130, 2, none⟩ (.int .i64 ((rd_T26 x11_1 x61_3).f1.f0))).setCell ⟨gb1130, 3, none⟩ (.int .i64 ((rd_T26 x11_1 x61_3).f1.f1))).heap[gb1130]? = some (.cells #[.int .i64 ((rd_T26 x11_1 x61_3).f0.f0), .int .i64 ((rd_T26 x11_1 x61_3).f0.f1), .int .i64 ((rd_T26 x11_1 x61_3).f1.f0), .int .i64 ((rd_T26 x11_1 x61_3).f1.f1)] 26 (0, 0))) := ⟨by refine dr ?_; refine blk_put (cs := #[.int .i64 ((rd_T26 x11_1 x61_3).f0.f0), .int .i64 ((rd_T26 x11_1 x61_3).f0.f1), .int .i64 ((rd_T26 x11_1 x61_3).f1.f0), .int .i64 0]) ?_ 3 _ rfl; refine dr ?_; refine blk_put (cs := #[.int .i64 ((rd_T26 x11_1 x61_3).f0.f0), .int .i64 ((rd_T26 x11_1 x61_3).f0.f1), .int .i64 0, .int .i64 0]) ?_ 2 _ rfl; refine dr ?_; refine blk_put (cs := #[.int .i64 ((rd_T26 x11_1 x61_3).f0.f0), .int .i64 0, .int .i64 0, .int .i64 0]) ?_ 1 _ rfl; refine dr ?_; refine blk_put (cs := #[.int .i64 0, .int .i64 0, .int .i64 0, .int .i64 0]) ?_ 0 _ rfl; exact bkA BK1130⟩
                     have n5_ : Aside0 (Below w.heap.size w ((((w69.setCell ⟨gb1130, 0, none⟩ (.int .i64 ((rd_T26 x11_1 x61_3).f0.f0))).setCell ⟨gb1130, 1, none⟩ (.int .i64 ((rd_T26 x11_1 x61_3).f0.f1))).setCell ⟨gb1130, 2, none⟩ (.int .i64 ((rd_T26 x11_1 x61_3).f1.f0))).setCell ⟨gb1130, 3, none⟩ (.int .i64 ((rd_T26 x11_1 x61_3).f1.f1)))) := ⟨blA⟩
                     (try clear HO_11)
                     (try clear HO_14)
                     (try clear HO_59)
                     (try clear BK1110)
                     (try clear BK1130)
                     (try clear HB)
                     generalize ((((w69.setCell ⟨gb1130, 0, none⟩ (.int .i64 ((rd_T26 x11_1 x61_3).f0.f0))).setCell ⟨gb1130, 1, none⟩ (.int .i64 ((rd_T26 x11_1 x61_3).f0.f1))).setCell ⟨gb1130, 2, none⟩ (.int .i64 ((rd_T26 x11_1 x61_3).f1.f0))).setCell ⟨gb1130, 3, none⟩ (.int .i64 ((rd_T26 x11_1 x61_3).f1.f1))) = w72 at n0_ n1_ n2_ n3_ n4_ n5_ ⊢
                     have HO_11 := n0_
                     have HO_14 := n1_
                     have HO_59 := n2_
                     have BK1110 := n3_
                     have BK1130 := n4_
                     have HB := n5_
                     clear n0_ n1_ n2_ n3_ n4_ n5_
                     have n0_ := Aside0.mk (Kd.R_drew HO_11.out)
                     have n1_ := Aside0.mk (Kd.R_drew HO_14.out)
                     have n2_ := Aside0.mk (Kd.R_drew HO_59.out)
                     have n3_ := Aside0.mk (blk_drew BK1110.out)
                     have n4_ := Aside0.mk (blk_drew BK1130.out)
                     have n5_ := Aside0.mk (below_drew1 HB.out)
                     clear HO_11
                     clear HO_14
                     clear HO_59
                     clear BK1110
                     clear BK1130
                     clear HB
                     have HO_11 := n0_
                     have HO_14 := n1_
                     have HO_59 := n2_
                     have BK1110 := n3_
                     have BK1130 := n4_
                     have HB := n5_
                     clear n0_ n1_ n2_ n3_ n4_ n5_
                     obtain ⟨Ao74, co74, eo74⟩ := Kd.R_slice HO_14.out
                     (first | subst eo74 | (injection eo74 with f1_ f2_ f3_; have f4_ := f1_.symm; have f5_ := f3_.symm; clear f1_ f2_ f3_; subst f4_; subst f5_))
                     have p1131 : 0 ≤ (x15_2 : Int) := dA
                     have q1131 : x15_2 < (x14_3.length : Int) := dA
                     obtain ⟨ad1131, e1131, hx1131_0, hx1131_1, hx1131_2⟩ := at_T39 (Kd.R_reads' HO_14.out).2.2 x15_2 p1131 q1131
                     cases e1131
                     replace p1131 := eq_true p1131
                     replace q1131 := eq_true q1131
                     refine start_ (n := 13) (S := fun w' => w'.cell? ⟨gb1130, 0, none⟩ = some (.int .i64 ((rd_T26 x11_1 x61_3).f0.f0)) ∧ w'.cell? ⟨gb1130, 1, none⟩ = some (.int .i64 ((rd_T26 x11_1 x61_3).f0.f1)) ∧ w'.cell? ⟨gb1130, 2, none⟩ = some (.int .i64 ((rd_T26 x11_1 x61_3).f1.f0)) ∧ w'.cell? ⟨gb1130, 3, none⟩ = some (.int .i64 ((rd_T26 x11_1 x61_3).f1.f1)) ∧ w'.cell? (ad1131.add ((x15_2).toNat * 3)) = some (.int .i64 ((rd_T39 x14_3 x15_2).f0)) ∧ w'.cell? ⟨(ad1131.add ((x15_2).toNat * 3)).block, (ad1131.add ((x15_2).toNat * 3)).off + 1, none⟩ = some (.int .i64 ((rd_T39 x14_3 x15_2).f1)) ∧ w'.cell? ⟨(ad1131.add ((x15_2).toNat * 3)).block, (ad1131.add ((x15_2).toNat * 3)).off + 2, none⟩ = some (.int .i64 ((rd_T39 x14_3 x15_2).f2))) (ds := []) #[Z, Z, Z, Z, Z, Z, Z, Z, Z, Z, Z, Z, Z] (by kernel_rfl) rfl rfl ⟨cA BK1130 0, cA BK1130 1, cA BK1130 2, cA BK1130 3, hx1131_0, hx1131_1, hx1131_2⟩ (fun hHeld => ?_); refine with_tabW impl_OrbitIn.tab21 impl_OrbitIn.bits21 (fun HT_ HW_ => ?_)
                     generalize w72.drew = w73 at HO_11 HO_14 HO_59 BK1110 BK1130 HB hx1131_0 hx1131_1 hx1131_2 hHeld ⊢
                     refine puA (i := 0) (N := some 66) #[Y, Z, Z, Z, Z, Z, Z, Z, Z, Z, Z, Z, Z] rfl rfl HT_ ?_
                     refine puA (i := 2) (N := some 68) #[Y, Z, Y, Z, Z, Z, Z, Z, Z, Z, Z, Z, Z] rfl rfl HT_ ?_
                     refine puA (i := 3) (N := some 69) #[Y, Z, Y, Y, Z, Z, Z, Z, Z, Z, Z, Z, Z] rfl rfl HT_ ?_
                     refine puA (i := 4) (N := some 70) #[Y, Z, Y, Y, Y, Z, Z, Z, Z, Z, Z, Z, Z] rfl rfl HT_ ?_
                     refine take_ (i := 1) (N := some 67) (v := ?_) (a' := ?_) #[Y, Y, Y, Y, Y, Z, Z, Z, Z, Z, Z, Z, Z] rfl rfl (take_ofW HT_.out HW_.out (by kernel_rfl)) (fun _ _ _ h => h) (Or.inl ⟨by rfl, ?_⟩) hHeld ?_ ?_
                     rotate_left
                     ·
                      rintro w' ⟨s0, s1, s2, s3, s4, s5, s6⟩
                      go_simp
                      with_reducible rfl
                     rotate_left
                     ·
                      simp only [pA]
                      rfl
                     refine take_ (i := 5) (N := some 71) (v := ?_) (a' := ?_) #[Y, Y, Y, Y, Y, Y, Z, Z, Z, Z, Z, Z, Z] rfl rfl (take_ofW HT_.out HW_.out (by kernel_rfl)) (fun _ _ _ h => h) (Or.inl ⟨by rfl, ?_⟩) hHeld ?_ ?_
                     rotate_left
                     ·
                      rintro w' ⟨s0, s1, s2, s3, s4, s5, s6⟩
                      go_simp
                      with_reducible rfl
                     rotate_left
                     ·
                      simp only [pA]
                      rfl
                     refine join_ (σ := Nat) 2 #[Y, Y, Y, Y, Y, Y, Y, Y, Y, Y, Y, Z, Z] (fun s_ => [(72, .tuple #[.agg #[.int .i64 t1132, .int .i64 t1133, .int .i64 t1134], .bool true]), (18, .pointer (some ⟨s_, 0, none⟩)), (65, .tuple #[.agg #[.int .i64 t1132, .int .i64 t1133, .int .i64 t1134], .bool true]), (73, .agg #[.int .i64 t1132, .int .i64 t1133, .int .i64 t1134]), (74, .bool true)]) (fun s_ w' => (w'.cell? ⟨gb1130, 0, none⟩ = some (.int .i64 ((rd_T26 x11_1 x61_3).f0.f0)) ∧ w'.cell? ⟨gb1130, 1, none⟩ = some (.int .i64 ((rd_T26 x11_1 x61_3).f0.f1)) ∧ w'.cell? ⟨gb1130, 2, none⟩ = some (.int .i64 ((rd_T26 x11_1 x61_3).f1.f0)) ∧ w'.cell? ⟨gb1130, 3, none⟩ = some (.int .i64 ((rd_T26 x11_1 x61_3).f1.f1)) ∧ w'.cell? (ad1131.add ((x15_2).toNat * 3)) = some (.int .i64 ((rd_T39 x14_3 x15_2).f0)) ∧ w'.cell? ⟨(ad1131.add ((x15_2).toNat * 3)).block, (ad1131.add ((x15_2).toNat * 3)).off + 1, none⟩ = some (.int .i64 ((rd_T39 x14_3 x15_2).f1)) ∧ w'.cell? ⟨(ad1131.add ((x15_2).toNat * 3)).block, (ad1131.add ((x15_2).toNat * 3)).off + 2, none⟩ = some (.int .i64 ((rd_T39 x14_3 x15_2).f2))) ∧ (Kd.R k26 26 w' w.heap.size (fun k_ => k_ ≠ gb1130) (.slice (some ad1129) x11_1.length co40) x11_1) ∧ (Kd.R k39 39 w' w.heap.size (fun k_ => k_ ≠ gb1110 ∧ k_ ≠ s_) (.slice (some ad1131) x14_3.length co74) x14_3) ∧ (Kd.R k26 26 w' w.heap.size (fun k_ => k_ ≠ gb1130) (.slice (some ad1129) x11_1.length co40) x11_1) ∧ (w'.heap[gb1110]? = some (.cells #[.int .i64 a2_0, .int .i64 a2_1, .int .i64 a2_2] 39 (0, 0))) ∧ (w'.heap[gb1130]? = some (.cells #[.int .i64 ((rd_T26 x11_1 x61_3).f0.f0), .int .i64 ((rd_T26 x11_1 x61_3).f0.f1), .int .i64 ((rd_T26 x11_1 x61_3).f1.f0), .int .i64 ((rd_T26 x11_1 x61_3).f1.f1)] 26 (0, 0))) ∧ (w'.heap[s_]? = some (.cells #[.int .i64 0, .int .i64 0, .int .i64 0] 39 (0, 0))) ∧ (w.heap.size ≤ s_) ∧ (w.heap.size ≤ s_) ∧ (gb1110 ≠ s_) ∧ (s_ ≠ gb1110) ∧ (gb1130 ≠ s_) ∧ (s_ ≠ gb1130) ∧ (Below w.heap.size w w')) ?_ ?_
                     rotate_left
                     ·
                      intro hCont
                      refine two_ (i := 6) (j := 10) (Ni := some 72) (Nj := some 18) #[Y, Y, Y, Y, Y, Y, Y, Z, Z, Z, Z, Z, Z] #[Y, Y, Y, Y, Y, Y, Z, Z, Z, Z, Y, Z, Z] rfl rfl rfl rfl (two_of HT_.out (by kernel_rfl)) (by decide) (by decide) (fun K hK => ?_) (fun K hK => ?_)
                      ·
                       skip
                       refine goes_ Try.func68 (by kernel_rfl) rfl #[.int .i64 a0, .agg #[.int .i64 ((rd_T26 x11_1 x61_3).f0.f0), .int .i64 ((rd_T26 x11_1 x61_3).f0.f1), .int .i64 ((rd_T26 x11_1 x61_3).f1.f0), .int .i64 ((rd_T26 x11_1 x61_3).f1.f1)], .agg #[.int .i64 ((rd_T39 x14_3 x15_2).f0), .int .i64 ((rd_T39 x14_3 x15_2).f1), .int .i64 ((rd_T39 x14_3 x15_2).f2)]] (by rfl) rfl rfl hA ?_
                       with_reducible refine (impl_moveBall.calls k3 a0 ((rd_T26 x11_1 x61_3).f0.f0) ((rd_T26 x11_1 x61_3).f0.f1) ((rd_T26 x11_1 x61_3).f1.f0) ((rd_T26 x11_1 x61_3).f1.f1) ((rd_T39 x14_3 x15_2).f0) ((rd_T39 x14_3 x15_2).f1) ((rd_T39 x14_3 x15_2).f2) t1132 t1133 t1134 true _ A46.out).mono ?_
                       rintro e w75 ⟨rfl, hb⟩
                       have HS4_ := (hb.cell (World.block_lt_of_cell? _ _ (hHeld.2.2.2.2.1))).trans (hHeld.2.2.2.2.1)
                       have HS5_ := (hb.cell (World.block_lt_of_cell? _ _ (hHeld.2.2.2.2.2.1))).trans (hHeld.2.2.2.2.2.1)
                       have HS6_ := (hb.cell (World.block_lt_of_cell? _ _ (hHeld.2.2.2.2.2.2))).trans (hHeld.2.2.2.2.2.2)
                       refine ⟨_, rfl, ?_⟩
                       replace HO_11 := Aside0.mk (Kd.R_below (rA HO_11) hb)
                       replace HO_14 := Aside0.mk (Kd.R_below (rA HO_14) hb)
                       replace HO_59 := Aside0.mk (Kd.R_below (rA HO_59) hb)
                       replace BK1110 := kB BK1110 hb
                       replace BK1130 := kB BK1130 hb
                       replace HB := lB hb
                       (try clear hb)
                       (try clear hb2)
                       (try clear hk)
                       (try clear hi)
                       refine hK.out _ _ ⟨cA BK1130 0, cA BK1130 1, cA BK1130 2, cA BK1130 3, HS4_, HS5_, HS6_⟩ (fun hHeld => ?_)
                       clear hK K
                       refine norm_ (a' := ?_) ?_ ?_
                       rotate_left
                       ·
                        show Act.put _ (some 72) _ = _
                        simp only [pA]
                        rfl
                       refine puA (i := 7) (N := some 65) #[Y, Y, Y, Y, Y, Y, Y, Y, Z, Z, Z, Z, Z] rfl rfl HT_ ?_
                       refine puA (i := 8) (N := some 73) #[Y, Y, Y, Y, Y, Y, Y, Y, Y, Z, Z, Z, Z] rfl rfl HT_ ?_
                       refine puA (i := 9) (N := some 74) #[Y, Y, Y, Y, Y, Y, Y, Y, Y, Y, Z, Z, Z] rfl rfl HT_ ?_
                       refine one_ (i := 10) (N := some 18) #[Y, Y, Y, Y, Y, Y, Y, Y, Y, Y, Y, Z, Z] rfl rfl (one_of HT_.out (by kernel_rfl)) (by decide) (fun K hK => ?_)
                       refine box_step ?hg (N := 18) ?hd (cs := #[.int .i64 0, .int .i64 0, .int .i64 0]) (t := 39) ?hr ?_; (case hd => rfl); (case hg => rfl); (case hr => first | (go_simp; done) | (go_simp; rfl))
                       intro gb1136 hg w76 hbox hb
                       have HS4_ := (hb.cell (World.block_lt_of_cell? _ _ (hHeld.2.2.2.2.1))).trans (hHeld.2.2.2.2.1)
                       have HS5_ := (hb.cell (World.block_lt_of_cell? _ _ (hHeld.2.2.2.2.2.1))).trans (hHeld.2.2.2.2.2.1)
                       have HS6_ := (hb.cell (World.block_lt_of_cell? _ _ (hHeld.2.2.2.2.2.2))).trans (hHeld.2.2.2.2.2.2)
                       have BK1136 := Aside0.mk (hbox)
                       have GW1136 := sA hg
                       have GE1136 := sA hg
                       have NB1110_1136 := nA hg BK1110
                       have NB1136_1110 := nB hg BK1110
                       have NB1130_1136 := nA hg BK1130
                       have NB1136_1130 := nB hg BK1130
                       replace HO_11 := Aside0.mk (Kd.R_below (rA HO_11) hb)
                       replace HO_14 := Aside0.mk (Kd.R_below (Kd.R_elderB (rA HO_14) gb1136 (Nat.le_of_eq hg.symm)) hb)
                       replace HO_59 := Aside0.mk (Kd.R_below (rA HO_59) hb)
                       replace BK1110 := kB BK1110 hb
                       replace BK1130 := kB BK1130 hb
                       replace HB := lB hb
                       clear hb hbox hg
                       refine hK.out _ _ ⟨cA BK1130 0, cA BK1130 1, cA BK1130 2, cA BK1130 3, HS4_, HS5_, HS6_⟩ (fun hHeld => ?_)
                       clear hK K
                       refine norm_ (a' := ?_) ?_ ?_
                       rotate_left
                       ·
                        show Act.put _ (some 18) _ = _
                        simp only [pA]
                        rfl
                       exact norm_ (by simp only [putAll, Act.put, List.setIfInBounds_toArray, List.set_cons_zero, List.set_cons_succ]) (hCont (gb1136) _ ⟨hHeld, (rA HO_11), (rA HO_14), (rA HO_59), (bkA BK1110), (bkA BK1130), (bkA BK1136), GW1136.out, GE1136.out, NB1110_1136.out, NB1136_1110.out, NB1130_1136.out, NB1136_1130.out, blA⟩)
                      ·
                       skip
                       refine box_step ?hg (N := 18) ?hd (cs := #[.int .i64 0, .int .i64 0, .int .i64 0]) (t := 39) ?hr ?_; (case hd => rfl); (case hg => rfl); (case hr => first | (go_simp; done) | (go_simp; rfl))
                       intro gb1136 hg w75 hbox hb
                       have HS4_ := (hb.cell (World.block_lt_of_cell? _ _ (hHeld.2.2.2.2.1))).trans (hHeld.2.2.2.2.1)
                       have HS5_ := (hb.cell (World.block_lt_of_cell? _ _ (hHeld.2.2.2.2.2.1))).trans (hHeld.2.2.2.2.2.1)
                       have HS6_ := (hb.cell (World.block_lt_of_cell? _ _ (hHeld.2.2.2.2.2.2))).trans (hHeld.2.2.2.2.2.2)
                       have BK1136 := Aside0.mk (hbox)
                       have GW1136 := sA hg
                       have GE1136 := sA hg
                       have NB1110_1136 := nA hg BK1110
                       have NB1136_1110 := nB hg BK1110
                       have NB1130_1136 := nA hg BK1130
                       have NB1136_1130 := nB hg BK1130
                       replace HO_11 := Aside0.mk (Kd.R_below (rA HO_11) hb)
                       replace HO_14 := Aside0.mk (Kd.R_below (Kd.R_elderB (rA HO_14) gb1136 (Nat.le_of_eq hg.symm)) hb)
                       replace HO_59 := Aside0.mk (Kd.R_below (rA HO_59) hb)
                       replace BK1110 := kB BK1110 hb
                       replace BK1130 := kB BK1130 hb
                       replace HB := lB hb
                       clear hb hbox hg
                       refine hK.out _ _ ⟨cA BK1130 0, cA BK1130 1, cA BK1130 2, cA BK1130 3, HS4_, HS5_, HS6_⟩ (fun hHeld => ?_)
                       clear hK K
                       refine norm_ (a' := ?_) ?_ ?_
                       rotate_left
                       ·
                        show Act.put _ (some 18) _ = _
                        simp only [pA]
                        rfl
                       refine one_ (i := 6) (N := some 72) #[Y, Y, Y, Y, Y, Y, Y, Z, Z, Z, Y, Z, Z] rfl rfl (one_of HT_.out (by kernel_rfl)) (by decide) (fun K hK => ?_)
                       refine goes_ Try.func68 (by kernel_rfl) rfl #[.int .i64 a0, .agg #[.int .i64 ((rd_T26 x11_1 x61_3).f0.f0), .int .i64 ((rd_T26 x11_1 x61_3).f0.f1), .int .i64 ((rd_T26 x11_1 x61_3).f1.f0), .int .i64 ((rd_T26 x11_1 x61_3).f1.f1)], .agg #[.int .i64 ((rd_T39 x14_3 x15_2).f0), .int .i64 ((rd_T39 x14_3 x15_2).f1), .int .i64 ((rd_T39 x14_3 x15_2).f2)]] (by rfl) rfl rfl hA ?_
                       with_reducible refine (impl_moveBall.calls k3 a0 ((rd_T26 x11_1 x61_3).f0.f0) ((rd_T26 x11_1 x61_3).f0.f1) ((rd_T26 x11_1 x61_3).f1.f0) ((rd_T26 x11_1 x61_3).f1.f1) ((rd_T39 x14_3 x15_2).f0) ((rd_T39 x14_3 x15_2).f1) ((rd_T39 x14_3 x15_2).f2) t1132 t1133 t1134 true _ A46.out).mono ?_
                       rintro e w76 ⟨rfl, hb⟩
                       have HS4_ := (hb.cell (World.block_lt_of_cell? _ _ (hHeld.2.2.2.2.1))).trans (hHeld.2.2.2.2.1)
                       have HS5_ := (hb.cell (World.block_lt_of_cell? _ _ (hHeld.2.2.2.2.2.1))).trans (hHeld.2.2.2.2.2.1)
                       have HS6_ := (hb.cell (World.block_lt_of_cell? _ _ (hHeld.2.2.2.2.2.2))).trans (hHeld.2.2.2.2.2.2)
                       refine ⟨_, rfl, ?_⟩
                       replace HO_11 := Aside0.mk (Kd.R_below (rA HO_11) hb)
                       replace HO_14 := Aside0.mk (Kd.R_below (rA HO_14) hb)
                       replace HO_59 := Aside0.mk (Kd.R_below (rA HO_59) hb)
                       replace BK1110 := kB BK1110 hb
                       replace BK1130 := kB BK1130 hb
                       replace BK1136 := kB BK1136 hb
                       replace HB := lB hb
                       (try clear hb)
                       (try clear hb2)
                       (try clear hk)
                       (try clear hi)
                       refine hK.out _ _ ⟨cA BK1130 0, cA BK1130 1, cA BK1130 2, cA BK1130 3, HS4_, HS5_, HS6_⟩ (fun hHeld => ?_)
                       clear hK K
                       refine norm_ (a' := ?_) ?_ ?_
                       rotate_left
                       ·
                        show Act.put _ (some 72) _ = _
                        simp only [pA]
                        rfl
                       refine puA (i := 7) (N := some 65) #[Y, Y, Y, Y, Y, Y, Y, Y, Z, Z, Y, Z, Z] rfl rfl HT_ ?_
                       refine puA (i := 8) (N := some 73) #[Y, Y, Y, Y, Y, Y, Y, Y, Y, Z, Y, Z, Z] rfl rfl HT_ ?_
                       refine puA (i := 9) (N := some 74) #[Y, Y, Y, Y, Y, Y, Y, Y, Y, Y, Y, Z, Z] rfl rfl HT_ ?_
                       exact norm_ (by simp only [putAll, Act.put, List.setIfInBounds_toArray, List.set_cons_zero, List.set_cons_succ]) (hCont (gb1136) _ ⟨hHeld, (rA HO_11), (rA HO_14), (rA HO_59), (bkA BK1110), (bkA BK1130), (bkA BK1136), GW1136.out, GE1136.out, NB1110_1136.out, NB1136_1110.out, NB1130_1136.out, NB1136_1130.out, blA⟩)
                     rintro gb1136 w77 ⟨hS_, h0_, h1_, h2_, h3_, h4_, h5_, h6_, h7_, h8_, h9_, h10_, h11_, h12_⟩
                     have BK1136 := Aside0.mk h5_
                     have GW1136 := Aside0.mk h6_
                     have GE1136 := Aside0.mk h7_
                     have NB1110_1136 := Aside0.mk h8_
                     have NB1136_1110 := Aside0.mk h9_
                     have NB1130_1136 := Aside0.mk h10_
                     have NB1136_1130 := Aside0.mk h11_
                     replace HO_11 := Aside0.mk h0_
                     replace HO_14 := Aside0.mk h1_
                     replace HO_59 := Aside0.mk h2_
                     replace BK1110 := Aside0.mk h3_
                     replace BK1130 := Aside0.mk h4_
                     replace HB := Aside0.mk h12_
                     clear h0_ h1_ h2_ h3_ h4_ h5_ h6_ h7_ h8_ h9_ h10_ h11_ h12_
                     have hHeld : w77.cell? ⟨gb1130, 0, none⟩ = some (.int .i64 ((rd_T26 x11_1 x61_3).f0.f0)) ∧ w77.cell? ⟨gb1130, 1, none⟩ = some (.int .i64 ((rd_T26 x11_1 x61_3).f0.f1)) ∧ w77.cell? ⟨gb1130, 2, none⟩ = some (.int .i64 ((rd_T26 x11_1 x61_3).f1.f0)) ∧ w77.cell? ⟨gb1130, 3, none⟩ = some (.int .i64 ((rd_T26 x11_1 x61_3).f1.f1)) ∧ w77.cell? (ad1131.add ((x15_2).toNat * 3)) = some (.int .i64 ((rd_T39 x14_3 x15_2).f0)) ∧ w77.cell? ⟨(ad1131.add ((x15_2).toNat * 3)).block, (ad1131.add ((x15_2).toNat * 3)).off + 1, none⟩ = some (.int .i64 ((rd_T39 x14_3 x15_2).f1)) ∧ w77.cell? ⟨(ad1131.add ((x15_2).toNat * 3)).block, (ad1131.add ((x15_2).toNat * 3)).off + 2, none⟩ = some (.int .i64 ((rd_T39 x14_3 x15_2).f2)) := hS_
                     refine norm_ (a' := ?_) ?_ ?_
                     rotate_left
                     ·
                      simp only [putAll, Act.put, List.setIfInBounds_toArray, List.set_cons_zero, List.set_cons_succ]
                      rfl
                     refine one_ (i := 11) (N := none) #[Y, Y, Y, Y, Y, Y, Y, Y, Y, Y, Y, Y, Z] rfl rfl (one_of HT_.out (by kernel_rfl)) (by decide) (fun K hK => ?_)
                     have hs78 : w77.cell? ⟨gb1136, 0, none⟩ = some (.int .i64 0) := cA BK1136 0
                     have hfs78 := blk_frozen BK1136.out 0
                     have hns78_0 := NB1110_1136.out
                     have hns78_1 := NB1130_1136.out
                     have hms78_0 := NB1136_1110.out
                     have hms78_1 := NB1136_1130.out
                     have hs79 : w77.cell? ⟨gb1136, 1, none⟩ = some (.int .i64 0) := cA BK1136 1
                     have hfs79 := blk_frozen BK1136.out 1
                     have hns79_0 := NB1110_1136.out
                     have hns79_1 := NB1130_1136.out
                     have hms79_0 := NB1136_1110.out
                     have hms79_1 := NB1136_1130.out
                     have hs80 : w77.cell? ⟨gb1136, 2, none⟩ = some (.int .i64 0) := cA BK1136 2
                     have hfs80 := blk_frozen BK1136.out 2
                     have hns80_0 := NB1110_1136.out
                     have hns80_1 := NB1130_1136.out
                     have hms80_0 := NB1136_1110.out
                     have hms80_1 := NB1136_1130.out
                     refine skip_ (w1 := ?_) (by rfl) rfl ?_ ?_
                     rotate_left
                     ·
                      go_simp
                      rfl
                     refine hK.out _ _ ⟨((cell_far (p := ⟨gb1136, _, none⟩) NB1130_1136.out _).trans (((cell_far (p := ⟨gb1136, _, none⟩) NB1130_1136.out _).trans (((cell_far (p := ⟨gb1136, _, none⟩) NB1130_1136.out _).trans (hHeld.1)))))), ((cell_far (p := ⟨gb1136, _, none⟩) NB1130_1136.out _).trans (((cell_far (p := ⟨gb1136, _, none⟩) NB1130_1136.out _).trans (((cell_far (p := ⟨gb1136, _, none⟩) NB1130_1136.out _).trans (hHeld.2.1)))))), ((cell_far (p := ⟨gb1136, _, none⟩) NB1130_1136.out _).trans (((cell_far (p := ⟨gb1136, _, none⟩) NB1130_1136.out _).trans (((cell_far (p := ⟨gb1136, _, none⟩) NB1130_1136.out _).trans (hHeld.2.2.1)))))), ((cell_far (p := ⟨gb1136, _, none⟩) NB1130_1136.out _).trans (((cell_far (p := ⟨gb1136, _, none⟩) NB1130_1136.out _).trans (((cell_far (p := ⟨gb1136, _, none⟩) NB1130_1136.out _).trans (hHeld.2.2.2.1)))))), ((cell_far (p := ⟨gb1136, _, none⟩) (fB (Kd.own_blk (Kd.R_away HO_14.out (fun _ hk => hk.2)))) _).trans (((cell_far (p := ⟨gb1136, _, none⟩) (fB (Kd.own_blk (Kd.R_away HO_14.out (fun _ hk => hk.2)))) _).trans (((cell_far (p := ⟨gb1136, _, none⟩) (fB (Kd.own_blk (Kd.R_away HO_14.out (fun _ hk => hk.2)))) _).trans (hHeld.2.2.2.2.1)))))), ((cell_far (p := ⟨gb1136, _, none⟩) (fB (Kd.own_blk (Kd.R_away HO_14.out (fun _ hk => hk.2)))) _).trans (((cell_far (p := ⟨gb1136, _, none⟩) (fB (Kd.own_blk (Kd.R_away HO_14.out (fun _ hk => hk.2)))) _).trans (((cell_far (p := ⟨gb1136, _, none⟩) (fB (Kd.own_blk (Kd.R_away HO_14.out (fun _ hk => hk.2)))) _).trans (hHeld.2.2.2.2.2.1)))))), ((cell_far (p := ⟨gb1136, _, none⟩) (fB (Kd.own_blk (Kd.R_away HO_14.out (fun _ hk => hk.2)))) _).trans (((cell_far (p := ⟨gb1136, _, none⟩) (fB (Kd.own_blk (Kd.R_away HO_14.out (fun _ hk => hk.2)))) _).trans (((cell_far (p := ⟨gb1136, _, none⟩) (fB (Kd.own_blk (Kd.R_away HO_14.out (fun _ hk => hk.2)))) _).trans (hHeld.2.2.2.2.2.2))))))⟩ (fun hHeld => ?_)
                     clear hK K
                     refine puA (i := 12) (N := some 19) #[Y, Y, Y, Y, Y, Y, Y, Y, Y, Y, Y, Y, Y] rfl rfl HT_ ?_
                     refine done_ (done_of HT_.out (by kernel_rfl)) ?_
                     have hnb81 := NB1136_1110.out
                     have hnc81 := NB1110_1136.out
                     have hnb82 := NB1136_1130.out
                     have hnc82 := NB1130_1136.out
                     obtain ⟨hcz83_0, hcz83_1, hcz83_2, hfz83_0, hfz83_1, hfz83_2⟩ := cz3 BK1136
                     try go_wp2_with (first | (go_at_call 106; (with_reducible refine (impl_Ball_106.calls k3 _ _ x14_3 t1132 t1133 t1134 false _ ?side1 ?side2 A48.out).mono ?_); (case side1 => refine (Kd.R_reads' (e := 39) (base := w.heap.size) (ok := fun k_ => (k_ ≠ gb1110 ∧ k_ ≠ gb1136)) (n := x14_3.length) (c := co74) ?_).2.2; exact (by (with_reducible repeat (first | apply Kd.R_alloc | apply Kd.R_drewN | apply Kd.R_drew)); exact (Kd.R_mono (Kd.R_far (p := ⟨gb1136, 2, none⟩) (Kd.R_far (p := ⟨gb1136, 1, none⟩) (Kd.R_far (p := ⟨gb1136, 0, none⟩) (Kd.R_mono HO_14.out (fun k_ hk => (⟨hk, hk.2⟩ : _ ∧ k_ ≠ gb1136))) (fun _ hk => hk.2) (.int .i64 t1132)) (fun _ hk => hk.2) (.int .i64 t1133)) (fun _ hk => hk.2) (.int .i64 t1134)) (fun _ h_ => h_.1)))); (case side2 => exact (Kd.R_reads' HO_14.out).2.1); rintro e w84 ⟨rfl, hb⟩; have n0_ := Aside0.mk (Kd.R_below (by (with_reducible repeat (first | apply Kd.R_alloc | apply Kd.R_drewN | apply Kd.R_drew)); exact (Kd.R_mono (Kd.R_far (p := ⟨gb1136, 2, none⟩) (Kd.R_far (p := ⟨gb1136, 1, none⟩) (Kd.R_far (p := ⟨gb1136, 0, none⟩) (Kd.R_types HO_11.out BK1136.out (by decide)) (fun _ hk => hk.2) (.int .i64 t1132)) (fun _ hk => hk.2) (.int .i64 t1133)) (fun _ hk => hk.2) (.int .i64 t1134)) (fun _ h_ => h_.1))) hb); have n1_ := Aside0.mk (Kd.R_below (by (with_reducible repeat (first | apply Kd.R_alloc | apply Kd.R_drewN | apply Kd.R_drew)); exact (Kd.R_mono (Kd.R_far (p := ⟨gb1136, 2, none⟩) (Kd.R_far (p := ⟨gb1136, 1, none⟩) (Kd.R_far (p := ⟨gb1136, 0, none⟩) (Kd.R_mono HO_14.out (fun k_ hk => (⟨hk, hk.2⟩ : _ ∧ k_ ≠ gb1136))) (fun _ hk => hk.2) (.int .i64 t1132)) (fun _ hk => hk.2) (.int .i64 t1133)) (fun _ hk => hk.2) (.int .i64 t1134)) (fun _ h_ => h_.1))) hb); have n2_ := Aside0.mk (Kd.R_below (by (with_reducible repeat (first | apply Kd.R_alloc | apply Kd.R_drewN | apply Kd.R_drew)); exact (Kd.R_mono (Kd.R_far (p := ⟨gb1136, 2, none⟩) (Kd.R_far (p := ⟨gb1136, 1, none⟩) (Kd.R_far (p := ⟨gb1136, 0, none⟩) (Kd.R_types HO_59.out BK1136.out (by decide)) (fun _ hk => hk.2) (.int .i64 t1132)) (fun _ hk => hk.2) (.int .i64 t1133)) (fun _ hk => hk.2) (.int .i64 t1134)) (fun _ h_ => h_.1))) hb); have n3_ := Aside0.mk (blk_below (g := gb1110) (o := .cells #[.int .i64 a2_0, .int .i64 a2_1, .int .i64 a2_2] 39 (0, 0)) (bkF BK1110) hb); have n4_ := Aside0.mk (blk_below (g := gb1130) (o := .cells #[.int .i64 ((rd_T26 x11_1 x61_3).f0.f0), .int .i64 ((rd_T26 x11_1 x61_3).f0.f1), .int .i64 ((rd_T26 x11_1 x61_3).f1.f0), .int .i64 ((rd_T26 x11_1 x61_3).f1.f1)] 26 (0, 0)) (bkF BK1130) hb); have n5_ := Aside0.mk (blk_below (g := gb1136) (o := .cells #[.int .i64 t1132, .int .i64 t1133, .int .i64 t1134] 39 (0, 0)) (by refine dr ?_; refine blk_put (cs := #[.int .i64 t1132, .int .i64 t1133, .int .i64 0]) ?_ 2 _ rfl; refine dr ?_; refine blk_put (cs := #[.int .i64 t1132, .int .i64 0, .int .i64 0]) ?_ 1 _ rfl; refine dr ?_; refine blk_put (cs := #[.int .i64 0, .int .i64 0, .int .i64 0]) ?_ 0 _ rfl; exact bkA BK1136) hb); have n6_ := lB hb; clear HO_11; clear HO_14; clear HO_59; clear BK1110; clear BK1130; clear BK1136; clear HB; have HO_11 := n0_; have HO_14 := n1_; have HO_59 := n2_; have BK1110 := n3_; have BK1130 := n4_; have BK1136 := n5_; have HB := n6_; clear n0_ n1_ n2_ n3_ n4_ n5_ n6_; (try clear hb); (try clear hb2); (try clear hk); (try clear hi); obtain ⟨hcz85_0, hcz85_1, hcz85_2, hfz85_0, hfz85_1, hfz85_2⟩ := cz3 BK1136) | (go_at_call 96; (with_reducible refine (impl_distance.calls k3 a0 t1132 t1133 t1134 0 0 0 t1138 _ A66.out).mono ?_); rintro e w86 ⟨rfl, hb⟩; have n0_ := Aside0.mk (Kd.R_below (rA HO_11) hb); have n1_ := Aside0.mk (Kd.R_below (rA HO_14) hb); have n2_ := Aside0.mk (Kd.R_below (rA HO_59) hb); have n3_ := kB BK1110 hb; have n4_ := kB BK1130 hb; have n5_ := kB BK1136 hb; have n6_ := lB hb; clear HO_11; clear HO_14; clear HO_59; clear BK1110; clear BK1130; clear BK1136; clear HB; have HO_11 := n0_; have HO_14 := n1_; have HO_59 := n2_; have BK1110 := n3_; have BK1130 := n4_; have BK1136 := n5_; have HB := n6_; clear n0_ n1_ n2_ n3_ n4_ n5_ n6_; (try clear hb); (try clear hb2); (try clear hk); (try clear hi); obtain ⟨hcz87_0, hcz87_1, hcz87_2, hfz87_0, hfz87_1, hfz87_2⟩ := cz3 BK1136) | ((with_reducible refine gate_builtin (b := .append) (xs := #[.tmp 90, .tmp 92]) rfl ?_); at_builtin; refine Kd.R_append k39 (w0 := w) w.heap.size rfl (.tmp 90) (.tmp 92) 36 39 (.agg #[(.int .i64 0), (.int .i64 0), (.int .i64 0)]) 24 rfl Try.underlying36 info39 rfl (by decide) (by omega) (.slice (some ad1131) x14_3.length co74) x14_3 (⟨t1132, t1133, t1134⟩ : S39) [.int .i64 t1132, .int .i64 t1133, .int .i64 t1134] (fun k_ => k_ ≠ gb1110 ∧ k_ ≠ gb1136) (fun _ => False) rfl rfl ?aP (fun _ hk => hk.elim) ?aF ?aO ?aB ?aS ?aL ?_; (case aP => exact k39_mkM _ _ _ (⟨t1132, t1133, t1134⟩ : S39)); (case aB => exact blA); (case aF => exact (fun k_ hk => ⟨Kd.freshB (bkA BK1110) k_ hk, Kd.freshB (bkA BK1136) k_ hk⟩)); (case aO => exact (rA HO_14)); (case aS => exact (below_size blA)); (case aL => have := LMc68.out; omega); intro v1140 w88 ho hb hg hat; rw [← Ny1139.out] at ho; have n0_ := Aside0.mk (Kd.R_over' (rA HO_11) (Kd.R_typed (rA HO_14)) (by decide) hg); have n1_ := Aside0.mk (Kd.R_over' (rA HO_59) (Kd.R_typed (rA HO_14)) (by decide) hg); have n2_ := Aside0.mk (blk_grown (bkA BK1110) hg (Kd.R_away HO_14.out (fun _ hk => hk.1))); have n3_ := Aside0.mk (blk_grown (bkA BK1130) hg (Kd.R_ne HO_14.out BK1130.out (by decide))); have n4_ := Aside0.mk (blk_grown (bkA BK1136) hg (Kd.R_away HO_14.out (fun _ hk => hk.2))); have n5_ := Aside0.mk (hb); have n6_ := Aside0.mk (ho); clear HO_11; clear HO_59; clear BK1110; clear BK1130; clear BK1136; clear HB; clear HO_14; have HO_11 := n0_; have HO_59 := n1_; have BK1110 := n2_; have BK1130 := n3_; have BK1136 := n4_; have HB := n5_; have HO1141 := n6_; clear n0_ n1_ n2_ n3_ n4_ n5_ n6_; clear ho hb hg hat))
                     go_roundg k3
                     case measure => have := HK1.out; have := HK2.out; have := HK3.out; omega
                     case rel => exact ⟨(y1139), (wrap64 (x61_3 + 1)), hB, H', ⟨by have := HK1.out; have := HK2.out; have := HK3.out; omega⟩, ⟨by (with_reducible repeat (first | apply Kd.R_alloc | apply Kd.R_drewN | apply Kd.R_drew)); exact Kd.R_mono HO_11.out (fun _ hk => trivial)⟩, ⟨by (with_reducible repeat (first | apply Kd.R_alloc | apply Kd.R_drewN | apply Kd.R_drew)); exact Kd.R_mono HO1141.out (fun _ hk => hk.1)⟩, ⟨by (with_reducible repeat (first | apply Kd.R_alloc | apply Kd.R_drewN | apply Kd.R_drew)); exact Kd.R_mono HO_59.out (fun _ hk => trivial)⟩, ⟨bkA BK1110⟩, ⟨blA⟩⟩
                    ·
                     rw [if_neg c68] at H
                     exact absurd H (by simp)
                   ·
                    rw [if_neg c67] at H
                    have c67b0 := decide_eq_false c67
                    clear c67
                    have H' := Aside0.mk H
                    clear H
                    have p1129 : 0 ≤ (x61_3 : Int) := dA
                    have q1129 : x61_3 < (x11_1.length : Int) := dA
                    obtain ⟨ad1129, e1129, hx1129_0, hx1129_1, hx1129_2, hx1129_3⟩ := at_T26 (Kd.R_reads' HO_59.out).2.2 x61_3 p1129 q1129
                    cases e1129
                    replace p1129 := eq_true p1129
                    replace q1129 := eq_true q1129
                    try go_wp2_with (first | ((with_reducible refine gate_dst (N := 17) rfl ?_); refine box_event ?hg (N := 17) ?hd (cs := #[.int .i64 0, .int .i64 0, .int .i64 0, .int .i64 0]) (t := 26) ?hr ?_; (case hd => rfl); (case hg => rfl); (case hr => first | (go_simp; done) | (go_simp; rfl)); intro gb1130 hg w89 hbox hb; have n0_ := Aside0.mk (Kd.R_below (Kd.R_elderB (rA HO_11) gb1130 (Nat.le_of_eq hg.symm)) hb); have n1_ := Aside0.mk (Kd.R_below (rA HO_14) hb); have n2_ := Aside0.mk (Kd.R_below (Kd.R_elderB (rA HO_59) gb1130 (Nat.le_of_eq hg.symm)) hb); have n3_ := kB BK1110 hb; have n4_ := lB hb; have n5_ := Aside0.mk (hbox); have n6_ := sA hg; have n7_ := sA hg; have n8_ := nA hg BK1110; have n9_ := nB hg BK1110; clear HO_11; clear HO_14; clear HO_59; clear BK1110; clear HB; have HO_11 := n0_; have HO_14 := n1_; have HO_59 := n2_; have BK1110 := n3_; have HB := n4_; have BK1130 := n5_; have GW1130 := n6_; have GE1130 := n7_; have NB1110_1130 := n8_; have NB1130_1110 := n9_; clear n0_ n1_ n2_ n3_ n4_ n5_ n6_ n7_ n8_ n9_; clear hb hbox hg; have hnb90 := NB1130_1110.out; have hnc90 := NB1110_1130.out; obtain ⟨hcz91_0, hcz91_1, hcz91_2, hcz91_3, hfz91_0, hfz91_1, hfz91_2, hfz91_3⟩ := cz4 BK1130))
                    have n0_ : Aside0 (Kd.R k26 26 ((((w89.setCell ⟨gb1130, 0, none⟩ (.int .i64 ((rd_T26 x11_1 x61_3).f0.f0))).setCell ⟨gb1130, 1, none⟩ (.int .i64 ((rd_T26 x11_1 x61_3).f0.f1))).setCell ⟨gb1130, 2, none⟩ (.int .i64 ((rd_T26 x11_1 x61_3).f1.f0))).setCell ⟨gb1130, 3, none⟩ (.int .i64 ((rd_T26 x11_1 x61_3).f1.f1))) w.heap.size (fun k_ => k_ ≠ gb1130) (.slice (some ad1129) x11_1.length co40) x11_1) := ⟨by (with_reducible repeat (first | apply Kd.R_alloc | apply Kd.R_drewN | apply Kd.R_drew)); exact Kd.R_mono (Kd.R_far (p := ⟨gb1130, 3, none⟩) (Kd.R_far (p := ⟨gb1130, 2, none⟩) (Kd.R_far (p := ⟨gb1130, 1, none⟩) (Kd.R_far (p := ⟨gb1130, 0, none⟩) (Kd.R_mono HO_11.out (fun k_ hk => (⟨hk, hk.2⟩ : _ ∧ k_ ≠ gb1130))) (fun _ hk => hk.2) (.int .i64 ((rd_T26 x11_1 x61_3).f0.f0))) (fun _ hk => hk.2) (.int .i64 ((rd_T26 x11_1 x61_3).f0.f1))) (fun _ hk => hk.2) (.int .i64 ((rd_T26 x11_1 x61_3).f1.f0))) (fun _ hk => hk.2) (.int .i64 ((rd_T26 x11_1 x61_3).f1.f1))) (fun _ hk => hk.1.2)⟩
                    have n1_ : Aside0 (Kd.R k39 39 ((((w89.setCell ⟨gb1130, 0, none⟩ (.int .i64 ((rd_T26 x11_1 x61_3).f0.f0))).setCell ⟨gb1130, 1, none⟩ (.int .i64 ((rd_T26 x11_1 x61_3).f0.f1))).setCell ⟨gb1130, 2, none⟩ (.int .i64 ((rd_T26 x11_1 x61_3).f1.f0))).setCell ⟨gb1130, 3, none⟩ (.int .i64 ((rd_T26 x11_1 x61_3).f1.f1))) w.heap.size (fun k_ => k_ ≠ gb1110) u14 x14_3) := ⟨by (with_reducible repeat (first | apply Kd.R_alloc | apply Kd.R_drewN | apply Kd.R_drew)); exact Kd.R_mono (Kd.R_far (p := ⟨gb1130, 3, none⟩) (Kd.R_far (p := ⟨gb1130, 2, none⟩) (Kd.R_far (p := ⟨gb1130, 1, none⟩) (Kd.R_far (p := ⟨gb1130, 0, none⟩) (Kd.R_types HO_14.out BK1130.out (by decide)) (fun _ hk => hk.2) (.int .i64 ((rd_T26 x11_1 x61_3).f0.f0))) (fun _ hk => hk.2) (.int .i64 ((rd_T26 x11_1 x61_3).f0.f1))) (fun _ hk => hk.2) (.int .i64 ((rd_T26 x11_1 x61_3).f1.f0))) (fun _ hk => hk.2) (.int .i64 ((rd_T26 x11_1 x61_3).f1.f1))) (fun _ hk => hk.1)⟩
                    have n2_ : Aside0 (Kd.R k26 26 ((((w89.setCell ⟨gb1130, 0, none⟩ (.int .i64 ((rd_T26 x11_1 x61_3).f0.f0))).setCell ⟨gb1130, 1, none⟩ (.int .i64 ((rd_T26 x11_1 x61_3).f0.f1))).setCell ⟨gb1130, 2, none⟩ (.int .i64 ((rd_T26 x11_1 x61_3).f1.f0))).setCell ⟨gb1130, 3, none⟩ (.int .i64 ((rd_T26 x11_1 x61_3).f1.f1))) w.heap.size (fun k_ => k_ ≠ gb1130) (.slice (some ad1129) x11_1.length co40) x11_1) := ⟨by (with_reducible repeat (first | apply Kd.R_alloc | apply Kd.R_drewN | apply Kd.R_drew)); exact Kd.R_mono (Kd.R_far (p := ⟨gb1130, 3, none⟩) (Kd.R_far (p := ⟨gb1130, 2, none⟩) (Kd.R_far (p := ⟨gb1130, 1, none⟩) (Kd.R_far (p := ⟨gb1130, 0, none⟩) (Kd.R_mono HO_59.out (fun k_ hk => (⟨hk, hk.2⟩ : _ ∧ k_ ≠ gb1130))) (fun _ hk => hk.2) (.int .i64 ((rd_T26 x11_1 x61_3).f0.f0))) (fun _ hk => hk.2) (.int .i64 ((rd_T26 x11_1 x61_3).f0.f1))) (fun _ hk => hk.2) (.int .i64 ((rd_T26 x11_1 x61_3).f1.f0))) (fun _ hk => hk.2) (.int .i64 ((rd_T26 x11_1 x61_3).f1.f1))) (fun _ hk => hk.1.2)⟩
                    have n3_ : Aside0 (((((w89.setCell ⟨gb1130, 0, none⟩ (.int .i64 ((rd_T26 x11_1 x61_3).f0.f0))).setCell ⟨gb1130, 1, none⟩ (.int .i64 ((rd_T26 x11_1 x61_3).f0.f1))).setCell ⟨gb1130, 2, none⟩ (.int .i64 ((rd_T26 x11_1 x61_3).f1.f0))).setCell ⟨gb1130, 3, none⟩ (.int .i64 ((rd_T26 x11_1 x61_3).f1.f1))).heap[gb1110]? = some (.cells #[.int .i64 a2_0, .int .i64 a2_1, .int .i64 a2_2] 39 (0, 0))) := ⟨bkF BK1110⟩
                    have n4_ : Aside0 (((((w89.setCell ⟨gb1130, 0, none⟩ (.int .i64 ((rd_T26 x11_1 x61_3).f0.f0))).setCell ⟨gb1130, 1, none⟩ (.int .i64 ((rd_T26 x11_1 x61_3).f0.f1))).setCell ⟨gb1130, 2, none⟩ (.int .i64 ((rd_T26 x11_1 x61_3).f1.f0))).setCell ⟨gb1130, 3, none⟩ (.int .i64 ((rd_T26 x11_1 x61_3).f1.f1))).heap[gb1130]? = some (.cells #[.int .i64 ((rd_T26 x11_1 x61_3).f0.f0), .int .i64 ((rd_T26 x11_1 x61_3).f0.f1), .int .i64 ((rd_T26 x11_1 x61_3).f1.f0), .int .i64 ((rd_T26 x11_1 x61_3).f1.f1)] 26 (0, 0))) := ⟨by refine dr ?_; refine blk_put (cs := #[.int .i64 ((rd_T26 x11_1 x61_3).f0.f0), .int .i64 ((rd_T26 x11_1 x61_3).f0.f1), .int .i64 ((rd_T26 x11_1 x61_3).f1.f0), .int .i64 0]) ?_ 3 _ rfl; refine dr ?_; refine blk_put (cs := #[.int .i64 ((rd_T26 x11_1 x61_3).f0.f0), .int .i64 ((rd_T26 x11_1 x61_3).f0.f1), .int .i64 0, .int .i64 0]) ?_ 2 _ rfl; refine dr ?_; refine blk_put (cs := #[.int .i64 ((rd_T26 x11_1 x61_3).f0.f0), .int .i64 0, .int .i64 0, .int .i64 0]) ?_ 1 _ rfl; refine dr ?_; refine blk_put (cs := #[.int .i64 0, .int .i64 0, .int .i64 0, .int .i64 0]) ?_ 0 _ rfl; exact bkA BK1130⟩
                    have n5_ : Aside0 (Below w.heap.size w ((((w89.setCell ⟨gb1130, 0, none⟩ (.int .i64 ((rd_T26 x11_1 x61_3).f0.f0))).setCell ⟨gb1130, 1, none⟩ (.int .i64 ((rd_T26 x11_1 x61_3).f0.f1))).setCell ⟨gb1130, 2, none⟩ (.int .i64 ((rd_T26 x11_1 x61_3).f1.f0))).setCell ⟨gb1130, 3, none⟩ (.int .i64 ((rd_T26 x11_1 x61_3).f1.f1)))) := ⟨blA⟩
                    (try clear HO_11)
                    (try clear HO_14)
                    (try clear HO_59)
                    (try clear BK1110)
                    (try clear BK1130)
                    (try clear HB)
                    generalize ((((w89.setCell ⟨gb1130, 0, none⟩ (.int .i64 ((rd_T26 x11_1 x61_3).f0.f0))).setCell ⟨gb1130, 1, none⟩ (.int .i64 ((rd_T26 x11_1 x61_3).f0.f1))).setCell ⟨gb1130, 2, none⟩ (.int .i64 ((rd_T26 x11_1 x61_3).f1.f0))).setCell ⟨gb1130, 3, none⟩ (.int .i64 ((rd_T26 x11_1 x61_3).f1.f1))) = w92 at n0_ n1_ n2_ n3_ n4_ n5_ ⊢
                    have HO_11 := n0_
                    have HO_14 := n1_
                    have HO_59 := n2_
                    have BK1110 := n3_
                    have BK1130 := n4_
                    have HB := n5_
                    clear n0_ n1_ n2_ n3_ n4_ n5_
                    have n0_ := Aside0.mk (Kd.R_drew HO_11.out)
                    have n1_ := Aside0.mk (Kd.R_drew HO_14.out)
                    have n2_ := Aside0.mk (Kd.R_drew HO_59.out)
                    have n3_ := Aside0.mk (blk_drew BK1110.out)
                    have n4_ := Aside0.mk (blk_drew BK1130.out)
                    have n5_ := Aside0.mk (below_drew1 HB.out)
                    clear HO_11
                    clear HO_14
                    clear HO_59
                    clear BK1110
                    clear BK1130
                    clear HB
                    have HO_11 := n0_
                    have HO_14 := n1_
                    have HO_59 := n2_
                    have BK1110 := n3_
                    have BK1130 := n4_
                    have HB := n5_
                    clear n0_ n1_ n2_ n3_ n4_ n5_
                    obtain ⟨Ao94, co94, eo94⟩ := Kd.R_slice HO_14.out
                    (first | subst eo94 | (injection eo94 with f1_ f2_ f3_; have f4_ := f1_.symm; have f5_ := f3_.symm; clear f1_ f2_ f3_; subst f4_; subst f5_))
                    have p1131 : 0 ≤ (x15_2 : Int) := dA
                    have q1131 : x15_2 < (x14_3.length : Int) := dA
                    obtain ⟨ad1131, e1131, hx1131_0, hx1131_1, hx1131_2⟩ := at_T39 (Kd.R_reads' HO_14.out).2.2 x15_2 p1131 q1131
                    cases e1131
                    replace p1131 := eq_true p1131
                    replace q1131 := eq_true q1131
                    refine start_ (n := 13) (S := fun w' => w'.cell? ⟨gb1130, 0, none⟩ = some (.int .i64 ((rd_T26 x11_1 x61_3).f0.f0)) ∧ w'.cell? ⟨gb1130, 1, none⟩ = some (.int .i64 ((rd_T26 x11_1 x61_3).f0.f1)) ∧ w'.cell? ⟨gb1130, 2, none⟩ = some (.int .i64 ((rd_T26 x11_1 x61_3).f1.f0)) ∧ w'.cell? ⟨gb1130, 3, none⟩ = some (.int .i64 ((rd_T26 x11_1 x61_3).f1.f1)) ∧ w'.cell? (ad1131.add ((x15_2).toNat * 3)) = some (.int .i64 ((rd_T39 x14_3 x15_2).f0)) ∧ w'.cell? ⟨(ad1131.add ((x15_2).toNat * 3)).block, (ad1131.add ((x15_2).toNat * 3)).off + 1, none⟩ = some (.int .i64 ((rd_T39 x14_3 x15_2).f1)) ∧ w'.cell? ⟨(ad1131.add ((x15_2).toNat * 3)).block, (ad1131.add ((x15_2).toNat * 3)).off + 2, none⟩ = some (.int .i64 ((rd_T39 x14_3 x15_2).f2))) (ds := []) #[Z, Z, Z, Z, Z, Z, Z, Z, Z, Z, Z, Z, Z] (by kernel_rfl) rfl rfl ⟨cA BK1130 0, cA BK1130 1, cA BK1130 2, cA BK1130 3, hx1131_0, hx1131_1, hx1131_2⟩ (fun hHeld => ?_); refine with_tabW impl_OrbitIn.tab21 impl_OrbitIn.bits21 (fun HT_ HW_ => ?_)
                    generalize w92.drew = w93 at HO_11 HO_14 HO_59 BK1110 BK1130 HB hx1131_0 hx1131_1 hx1131_2 hHeld ⊢
                    refine puA (i := 0) (N := some 66) #[Y, Z, Z, Z, Z, Z, Z, Z, Z, Z, Z, Z, Z] rfl rfl HT_ ?_
                    refine puA (i := 2) (N := some 68) #[Y, Z, Y, Z, Z, Z, Z, Z, Z, Z, Z, Z, Z] rfl rfl HT_ ?_
                    refine puA (i := 3) (N := some 69) #[Y, Z, Y, Y, Z, Z, Z, Z, Z, Z, Z, Z, Z] rfl rfl HT_ ?_
                    refine puA (i := 4) (N := some 70) #[Y, Z, Y, Y, Y, Z, Z, Z, Z, Z, Z, Z, Z] rfl rfl HT_ ?_
                    refine take_ (i := 1) (N := some 67) (v := ?_) (a' := ?_) #[Y, Y, Y, Y, Y, Z, Z, Z, Z, Z, Z, Z, Z] rfl rfl (take_ofW HT_.out HW_.out (by kernel_rfl)) (fun _ _ _ h => h) (Or.inl ⟨by rfl, ?_⟩) hHeld ?_ ?_
                    rotate_left
                    ·
                     rintro w' ⟨s0, s1, s2, s3, s4, s5, s6⟩
                     go_simp
                     with_reducible rfl
                    rotate_left
                    ·
                     simp only [pA]
                     rfl
                    refine take_ (i := 5) (N := some 71) (v := ?_) (a' := ?_) #[Y, Y, Y, Y, Y, Y, Z, Z, Z, Z, Z, Z, Z] rfl rfl (take_ofW HT_.out HW_.out (by kernel_rfl)) (fun _ _ _ h => h) (Or.inl ⟨by rfl, ?_⟩) hHeld ?_ ?_
                    rotate_left
                    ·
                     rintro w' ⟨s0, s1, s2, s3, s4, s5, s6⟩
                     go_simp
                     with_reducible rfl
                    rotate_left
                    ·
                     simp only [pA]
                     rfl
                    refine join_ (σ := Nat) 2 #[Y, Y, Y, Y, Y, Y, Y, Y, Y, Y, Y, Z, Z] (fun s_ => [(72, .tuple #[.agg #[.int .i64 t1132, .int .i64 t1133, .int .i64 t1134], .bool true]), (18, .pointer (some ⟨s_, 0, none⟩)), (65, .tuple #[.agg #[.int .i64 t1132, .int .i64 t1133, .int .i64 t1134], .bool true]), (73, .agg #[.int .i64 t1132, .int .i64 t1133, .int .i64 t1134]), (74, .bool true)]) (fun s_ w' => (w'.cell? ⟨gb1130, 0, none⟩ = some (.int .i64 ((rd_T26 x11_1 x61_3).f0.f0)) ∧ w'.cell? ⟨gb1130, 1, none⟩ = some (.int .i64 ((rd_T26 x11_1 x61_3).f0.f1)) ∧ w'.cell? ⟨gb1130, 2, none⟩ = some (.int .i64 ((rd_T26 x11_1 x61_3).f1.f0)) ∧ w'.cell? ⟨gb1130, 3, none⟩ = some (.int .i64 ((rd_T26 x11_1 x61_3).f1.f1)) ∧ w'.cell? (ad1131.add ((x15_2).toNat * 3)) = some (.int .i64 ((rd_T39 x14_3 x15_2).f0)) ∧ w'.cell? ⟨(ad1131.add ((x15_2).toNat * 3)).block, (ad1131.add ((x15_2).toNat * 3)).off + 1, none⟩ = some (.int .i64 ((rd_T39 x14_3 x15_2).f1)) ∧ w'.cell? ⟨(ad1131.add ((x15_2).toNat * 3)).block, (ad1131.add ((x15_2).toNat * 3)).off + 2, none⟩ = some (.int .i64 ((rd_T39 x14_3 x15_2).f2))) ∧ (Kd.R k26 26 w' w.heap.size (fun k_ => k_ ≠ gb1130) (.slice (some ad1129) x11_1.length co40) x11_1) ∧ (Kd.R k39 39 w' w.heap.size (fun k_ => k_ ≠ gb1110 ∧ k_ ≠ s_) (.slice (some ad1131) x14_3.length co94) x14_3) ∧ (Kd.R k26 26 w' w.heap.size (fun k_ => k_ ≠ gb1130) (.slice (some ad1129) x11_1.length co40) x11_1) ∧ (w'.heap[gb1110]? = some (.cells #[.int .i64 a2_0, .int .i64 a2_1, .int .i64 a2_2] 39 (0, 0))) ∧ (w'.heap[gb1130]? = some (.cells #[.int .i64 ((rd_T26 x11_1 x61_3).f0.f0), .int .i64 ((rd_T26 x11_1 x61_3).f0.f1), .int .i64 ((rd_T26 x11_1 x61_3).f1.f0), .int .i64 ((rd_T26 x11_1 x61_3).f1.f1)] 26 (0, 0))) ∧ (w'.heap[s_]? = some (.cells #[.int .i64 0, .int .i64 0, .int .i64 0] 39 (0, 0))) ∧ (w.heap.size ≤ s_) ∧ (w.heap.size ≤ s_) ∧ (gb1110 ≠ s_) ∧ (s_ ≠ gb1110) ∧ (gb1130 ≠ s_) ∧ (s_ ≠ gb1130) ∧ (Below w.heap.size w w')) ?_ ?_
                    rotate_left
                    ·
                     intro hCont
                     refine two_ (i := 6) (j := 10) (Ni := some 72) (Nj := some 18) #[Y, Y, Y, Y, Y, Y, Y, Z, Z, Z, Z, Z, Z] #[Y, Y, Y, Y, Y, Y, Z, Z, Z, Z, Y, Z, Z] rfl rfl rfl rfl (two_of HT_.out (by kernel_rfl)) (by decide) (by decide) (fun K hK => ?_) (fun K hK => ?_)
                     ·
                      skip
                      refine goes_ Try.func68 (by kernel_rfl) rfl #[.int .i64 a0, .agg #[.int .i64 ((rd_T26 x11_1 x61_3).f0.f0), .int .i64 ((rd_T26 x11_1 x61_3).f0.f1), .int .i64 ((rd_T26 x11_1 x61_3).f1.f0), .int .i64 ((rd_T26 x11_1 x61_3).f1.f1)], .agg #[.int .i64 ((rd_T39 x14_3 x15_2).f0), .int .i64 ((rd_T39 x14_3 x15_2).f1), .int .i64 ((rd_T39 x14_3 x15_2).f2)]] (by rfl) rfl rfl hA ?_
                      with_reducible refine (impl_moveBall.calls k3 a0 ((rd_T26 x11_1 x61_3).f0.f0) ((rd_T26 x11_1 x61_3).f0.f1) ((rd_T26 x11_1 x61_3).f1.f0) ((rd_T26 x11_1 x61_3).f1.f1) ((rd_T39 x14_3 x15_2).f0) ((rd_T39 x14_3 x15_2).f1) ((rd_T39 x14_3 x15_2).f2) t1132 t1133 t1134 true _ A46.out).mono ?_
                      rintro e w95 ⟨rfl, hb⟩
                      have HS4_ := (hb.cell (World.block_lt_of_cell? _ _ (hHeld.2.2.2.2.1))).trans (hHeld.2.2.2.2.1)
                      have HS5_ := (hb.cell (World.block_lt_of_cell? _ _ (hHeld.2.2.2.2.2.1))).trans (hHeld.2.2.2.2.2.1)
                      have HS6_ := (hb.cell (World.block_lt_of_cell? _ _ (hHeld.2.2.2.2.2.2))).trans (hHeld.2.2.2.2.2.2)
                      refine ⟨_, rfl, ?_⟩
                      replace HO_11 := Aside0.mk (Kd.R_below (rA HO_11) hb)
                      replace HO_14 := Aside0.mk (Kd.R_below (rA HO_14) hb)
                      replace HO_59 := Aside0.mk (Kd.R_below (rA HO_59) hb)
                      replace BK1110 := kB BK1110 hb
                      replace BK1130 := kB BK1130 hb
                      replace HB := lB hb
                      (try clear hb)
                      (try clear hb2)
                      (try clear hk)
                      (try clear hi)
                      refine hK.out _ _ ⟨cA BK1130 0, cA BK1130 1, cA BK1130 2, cA BK1130 3, HS4_, HS5_, HS6_⟩ (fun hHeld => ?_)
                      clear hK K
                      refine norm_ (a' := ?_) ?_ ?_
                      rotate_left
                      ·
                       show Act.put _ (some 72) _ = _
                       simp only [pA]
                       rfl
                      refine puA (i := 7) (N := some 65) #[Y, Y, Y, Y, Y, Y, Y, Y, Z, Z, Z, Z, Z] rfl rfl HT_ ?_
                      refine puA (i := 8) (N := some 73) #[Y, Y, Y, Y, Y, Y, Y, Y, Y, Z, Z, Z, Z] rfl rfl HT_ ?_
                      refine puA (i := 9) (N := some 74) #[Y, Y, Y, Y, Y, Y, Y, Y, Y, Y, Z, Z, Z] rfl rfl HT_ ?_
                      refine one_ (i := 10) (N := some 18) #[Y, Y, Y, Y, Y, Y, Y, Y, Y, Y, Y, Z, Z] rfl rfl (one_of HT_.out (by kernel_rfl)) (by decide) (fun K hK => ?_)
                      refine box_step ?hg (N := 18) ?hd (cs := #[.int .i64 0, .int .i64 0, .int .i64 0]) (t := 39) ?hr ?_; (case hd => rfl); (case hg => rfl); (case hr => first | (go_simp; done) | (go_simp; rfl))
                      intro gb1136 hg w96 hbox hb
                      have HS4_ := (hb.cell (World.block_lt_of_cell? _ _ (hHeld.2.2.2.2.1))).trans (hHeld.2.2.2.2.1)
                      have HS5_ := (hb.cell (World.block_lt_of_cell? _ _ (hHeld.2.2.2.2.2.1))).trans (hHeld.2.2.2.2.2.1)
                      have HS6_ := (hb.cell (World.block_lt_of_cell? _ _ (hHeld.2.2.2.2.2.2))).trans (hHeld.2.2.2.2.2.2)
                      have BK1136 := Aside0.mk (hbox)
                      have GW1136 := sA hg
                      have GE1136 := sA hg
                      have NB1110_1136 := nA hg BK1110
                      have NB1136_1110 := nB hg BK1110
                      have NB1130_1136 := nA hg BK1130
                      have NB1136_1130 := nB hg BK1130
                      replace HO_11 := Aside0.mk (Kd.R_below (rA HO_11) hb)
                      replace HO_14 := Aside0.mk (Kd.R_below (Kd.R_elderB (rA HO_14) gb1136 (Nat.le_of_eq hg.symm)) hb)
                      replace HO_59 := Aside0.mk (Kd.R_below (rA HO_59) hb)
                      replace BK1110 := kB BK1110 hb
                      replace BK1130 := kB BK1130 hb
                      replace HB := lB hb
                      clear hb hbox hg
                      refine hK.out _ _ ⟨cA BK1130 0, cA BK1130 1, cA BK1130 2, cA BK1130 3, HS4_, HS5_, HS6_⟩ (fun hHeld => ?_)
                      clear hK K
                      refine norm_ (a' := ?_) ?_ ?_
                      rotate_left
                      ·
                       show Act.put _ (some 18) _ = _
                       simp only [pA]
                       rfl
                      exact norm_ (by simp only [putAll, Act.put, List.setIfInBounds_toArray, List.set_cons_zero, List.set_cons_succ]) (hCont (gb1136) _ ⟨hHeld, (rA HO_11), (rA HO_14), (rA HO_59), (bkA BK1110), (bkA BK1130), (bkA BK1136), GW1136.out, GE1136.out, NB1110_1136.out, NB1136_1110.out, NB1130_1136.out, NB1136_1130.out, blA⟩)
                     ·
                      skip
                      refine box_step ?hg (N := 18) ?hd (cs := #[.int .i64 0, .int .i64 0, .int .i64 0]) (t := 39) ?hr ?_; (case hd => rfl); (case hg => rfl); (case hr => first | (go_simp; done) | (go_simp; rfl))
                      intro gb1136 hg w95 hbox hb
                      have HS4_ := (hb.cell (World.block_lt_of_cell? _ _ (hHeld.2.2.2.2.1))).trans (hHeld.2.2.2.2.1)
                      have HS5_ := (hb.cell (World.block_lt_of_cell? _ _ (hHeld.2.2.2.2.2.1))).trans (hHeld.2.2.2.2.2.1)
                      have HS6_ := (hb.cell (World.block_lt_of_cell? _ _ (hHeld.2.2.2.2.2.2))).trans (hHeld.2.2.2.2.2.2)
                      have BK1136 := Aside0.mk (hbox)
                      have GW1136 := sA hg
                      have GE1136 := sA hg
                      have NB1110_1136 := nA hg BK1110
                      have NB1136_1110 := nB hg BK1110
                      have NB1130_1136 := nA hg BK1130
                      have NB1136_1130 := nB hg BK1130
                      replace HO_11 := Aside0.mk (Kd.R_below (rA HO_11) hb)
                      replace HO_14 := Aside0.mk (Kd.R_below (Kd.R_elderB (rA HO_14) gb1136 (Nat.le_of_eq hg.symm)) hb)
                      replace HO_59 := Aside0.mk (Kd.R_below (rA HO_59) hb)
                      replace BK1110 := kB BK1110 hb
                      replace BK1130 := kB BK1130 hb
                      replace HB := lB hb
                      clear hb hbox hg
                      refine hK.out _ _ ⟨cA BK1130 0, cA BK1130 1, cA BK1130 2, cA BK1130 3, HS4_, HS5_, HS6_⟩ (fun hHeld => ?_)
                      clear hK K
                      refine norm_ (a' := ?_) ?_ ?_
                      rotate_left
                      ·
                       show Act.put _ (some 18) _ = _
                       simp only [pA]
                       rfl
                      refine one_ (i := 6) (N := some 72) #[Y, Y, Y, Y, Y, Y, Y, Z, Z, Z, Y, Z, Z] rfl rfl (one_of HT_.out (by kernel_rfl)) (by decide) (fun K hK => ?_)
                      refine goes_ Try.func68 (by kernel_rfl) rfl #[.int .i64 a0, .agg #[.int .i64 ((rd_T26 x11_1 x61_3).f0.f0), .int .i64 ((rd_T26 x11_1 x61_3).f0.f1), .int .i64 ((rd_T26 x11_1 x61_3).f1.f0), .int .i64 ((rd_T26 x11_1 x61_3).f1.f1)], .agg #[.int .i64 ((rd_T39 x14_3 x15_2).f0), .int .i64 ((rd_T39 x14_3 x15_2).f1), .int .i64 ((rd_T39 x14_3 x15_2).f2)]] (by rfl) rfl rfl hA ?_
                      with_reducible refine (impl_moveBall.calls k3 a0 ((rd_T26 x11_1 x61_3).f0.f0) ((rd_T26 x11_1 x61_3).f0.f1) ((rd_T26 x11_1 x61_3).f1.f0) ((rd_T26 x11_1 x61_3).f1.f1) ((rd_T39 x14_3 x15_2).f0) ((rd_T39 x14_3 x15_2).f1) ((rd_T39 x14_3 x15_2).f2) t1132 t1133 t1134 true _ A46.out).mono ?_
                      rintro e w96 ⟨rfl, hb⟩
                      have HS4_ := (hb.cell (World.block_lt_of_cell? _ _ (hHeld.2.2.2.2.1))).trans (hHeld.2.2.2.2.1)
                      have HS5_ := (hb.cell (World.block_lt_of_cell? _ _ (hHeld.2.2.2.2.2.1))).trans (hHeld.2.2.2.2.2.1)
                      have HS6_ := (hb.cell (World.block_lt_of_cell? _ _ (hHeld.2.2.2.2.2.2))).trans (hHeld.2.2.2.2.2.2)
                      refine ⟨_, rfl, ?_⟩
                      replace HO_11 := Aside0.mk (Kd.R_below (rA HO_11) hb)
                      replace HO_14 := Aside0.mk (Kd.R_below (rA HO_14) hb)
                      replace HO_59 := Aside0.mk (Kd.R_below (rA HO_59) hb)
                      replace BK1110 := kB BK1110 hb
                      replace BK1130 := kB BK1130 hb
                      replace BK1136 := kB BK1136 hb
                      replace HB := lB hb
                      (try clear hb)
                      (try clear hb2)
                      (try clear hk)
                      (try clear hi)
                      refine hK.out _ _ ⟨cA BK1130 0, cA BK1130 1, cA BK1130 2, cA BK1130 3, HS4_, HS5_, HS6_⟩ (fun hHeld => ?_)
                      clear hK K
                      refine norm_ (a' := ?_) ?_ ?_
                      rotate_left
                      ·
                       show Act.put _ (some 72) _ = _
                       simp only [pA]
                       rfl
                      refine puA (i := 7) (N := some 65) #[Y, Y, Y, Y, Y, Y, Y, Y, Z, Z, Y, Z, Z] rfl rfl HT_ ?_
                      refine puA (i := 8) (N := some 73) #[Y, Y, Y, Y, Y, Y, Y, Y, Y, Z, Y, Z, Z] rfl rfl HT_ ?_
                      refine puA (i := 9) (N := some 74) #[Y, Y, Y, Y, Y, Y, Y, Y, Y, Y, Y, Z, Z] rfl rfl HT_ ?_
                      exact norm_ (by simp only [putAll, Act.put, List.setIfInBounds_toArray, List.set_cons_zero, List.set_cons_succ]) (hCont (gb1136) _ ⟨hHeld, (rA HO_11), (rA HO_14), (rA HO_59), (bkA BK1110), (bkA BK1130), (bkA BK1136), GW1136.out, GE1136.out, NB1110_1136.out, NB1136_1110.out, NB1130_1136.out, NB1136_1130.out, blA⟩)
                    rintro gb1136 w97 ⟨hS_, h0_, h1_, h2_, h3_, h4_, h5_, h6_, h7_, h8_, h9_, h10_, h11_, h12_⟩
                    have BK1136 := Aside0.mk h5_
                    have GW1136 := Aside0.mk h6_
                    have GE1136 := Aside0.mk h7_
                    have NB1110_1136 := Aside0.mk h8_
                    have NB1136_1110 := Aside0.mk h9_
                    have NB1130_1136 := Aside0.mk h10_
                    have NB1136_1130 := Aside0.mk h11_
                    replace HO_11 := Aside0.mk h0_
                    replace HO_14 := Aside0.mk h1_
                    replace HO_59 := Aside0.mk h2_
                    replace BK1110 := Aside0.mk h3_
                    replace BK1130 := Aside0.mk h4_
                    replace HB := Aside0.mk h12_
                    clear h0_ h1_ h2_ h3_ h4_ h5_ h6_ h7_ h8_ h9_ h10_ h11_ h12_
                    have hHeld : w97.cell? ⟨gb1130, 0, none⟩ = some (.int .i64 ((rd_T26 x11_1 x61_3).f0.f0)) ∧ w97.cell? ⟨gb1130, 1, none⟩ = some (.int .i64 ((rd_T26 x11_1 x61_3).f0.f1)) ∧ w97.cell? ⟨gb1130, 2, none⟩ = some (.int .i64 ((rd_T26 x11_1 x61_3).f1.f0)) ∧ w97.cell? ⟨gb1130, 3, none⟩ = some (.int .i64 ((rd_T26 x11_1 x61_3).f1.f1)) ∧ w97.cell? (ad1131.add ((x15_2).toNat * 3)) = some (.int .i64 ((rd_T39 x14_3 x15_2).f0)) ∧ w97.cell? ⟨(ad1131.add ((x15_2).toNat * 3)).block, (ad1131.add ((x15_2).toNat * 3)).off + 1, none⟩ = some (.int .i64 ((rd_T39 x14_3 x15_2).f1)) ∧ w97.cell? ⟨(ad1131.add ((x15_2).toNat * 3)).block, (ad1131.add ((x15_2).toNat * 3)).off + 2, none⟩ = some (.int .i64 ((rd_T39 x14_3 x15_2).f2)) := hS_
                    refine norm_ (a' := ?_) ?_ ?_
                    rotate_left
                    ·
                     simp only [putAll, Act.put, List.setIfInBounds_toArray, List.set_cons_zero, List.set_cons_succ]
                     rfl
                    refine one_ (i := 11) (N := none) #[Y, Y, Y, Y, Y, Y, Y, Y, Y, Y, Y, Y, Z] rfl rfl (one_of HT_.out (by kernel_rfl)) (by decide) (fun K hK => ?_)
                    have hs98 : w97.cell? ⟨gb1136, 0, none⟩ = some (.int .i64 0) := cA BK1136 0
                    have hfs98 := blk_frozen BK1136.out 0
                    have hns98_0 := NB1110_1136.out
                    have hns98_1 := NB1130_1136.out
                    have hms98_0 := NB1136_1110.out
                    have hms98_1 := NB1136_1130.out
                    have hs99 : w97.cell? ⟨gb1136, 1, none⟩ = some (.int .i64 0) := cA BK1136 1
                    have hfs99 := blk_frozen BK1136.out 1
                    have hns99_0 := NB1110_1136.out
                    have hns99_1 := NB1130_1136.out
                    have hms99_0 := NB1136_1110.out
                    have hms99_1 := NB1136_1130.out
                    have hs100 : w97.cell? ⟨gb1136, 2, none⟩ = some (.int .i64 0) := cA BK1136 2
                    have hfs100 := blk_frozen BK1136.out 2
                    have hns100_0 := NB1110_1136.out
                    have hns100_1 := NB1130_1136.out
                    have hms100_0 := NB1136_1110.out
                    have hms100_1 := NB1136_1130.out
                    refine skip_ (w1 := ?_) (by rfl) rfl ?_ ?_
                    rotate_left
                    ·
                     go_simp
                     rfl
                    refine hK.out _ _ ⟨((cell_far (p := ⟨gb1136, _, none⟩) NB1130_1136.out _).trans (((cell_far (p := ⟨gb1136, _, none⟩) NB1130_1136.out _).trans (((cell_far (p := ⟨gb1136, _, none⟩) NB1130_1136.out _).trans (hHeld.1)))))), ((cell_far (p := ⟨gb1136, _, none⟩) NB1130_1136.out _).trans (((cell_far (p := ⟨gb1136, _, none⟩) NB1130_1136.out _).trans (((cell_far (p := ⟨gb1136, _, none⟩) NB1130_1136.out _).trans (hHeld.2.1)))))), ((cell_far (p := ⟨gb1136, _, none⟩) NB1130_1136.out _).trans (((cell_far (p := ⟨gb1136, _, none⟩) NB1130_1136.out _).trans (((cell_far (p := ⟨gb1136, _, none⟩) NB1130_1136.out _).trans (hHeld.2.2.1)))))), ((cell_far (p := ⟨gb1136, _, none⟩) NB1130_1136.out _).trans (((cell_far (p := ⟨gb1136, _, none⟩) NB1130_1136.out _).trans (((cell_far (p := ⟨gb1136, _, none⟩) NB1130_1136.out _).trans (hHeld.2.2.2.1)))))), ((cell_far (p := ⟨gb1136, _, none⟩) (fB (Kd.own_blk (Kd.R_away HO_14.out (fun _ hk => hk.2)))) _).trans (((cell_far (p := ⟨gb1136, _, none⟩) (fB (Kd.own_blk (Kd.R_away HO_14.out (fun _ hk => hk.2)))) _).trans (((cell_far (p := ⟨gb1136, _, none⟩) (fB (Kd.own_blk (Kd.R_away HO_14.out (fun _ hk => hk.2)))) _).trans (hHeld.2.2.2.2.1)))))), ((cell_far (p := ⟨gb1136, _, none⟩) (fB (Kd.own_blk (Kd.R_away HO_14.out (fun _ hk => hk.2)))) _).trans (((cell_far (p := ⟨gb1136, _, none⟩) (fB (Kd.own_blk (Kd.R_away HO_14.out (fun _ hk => hk.2)))) _).trans (((cell_far (p := ⟨gb1136, _, none⟩) (fB (Kd.own_blk (Kd.R_away HO_14.out (fun _ hk => hk.2)))) _).trans (hHeld.2.2.2.2.2.1)))))), ((cell_far (p := ⟨gb1136, _, none⟩) (fB (Kd.own_blk (Kd.R_away HO_14.out (fun _ hk => hk.2)))) _).trans (((cell_far (p := ⟨gb1136, _, none⟩) (fB (Kd.own_blk (Kd.R_away HO_14.out (fun _ hk => hk.2)))) _).trans (((cell_far (p := ⟨gb1136, _, none⟩) (fB (Kd.own_blk (Kd.R_away HO_14.out (fun _ hk => hk.2)))) _).trans (hHeld.2.2.2.2.2.2))))))⟩ (fun hHeld => ?_)
                    clear hK K
                    refine puA (i := 12) (N := some 19) #[Y, Y, Y, Y, Y, Y, Y, Y, Y, Y, Y, Y, Y] rfl rfl HT_ ?_
                    refine done_ (done_of HT_.out (by kernel_rfl)) ?_
                    have hnb101 := NB1136_1110.out
                    have hnc101 := NB1110_1136.out
                    have hnb102 := NB1136_1130.out
                    have hnc102 := NB1130_1136.out
                    obtain ⟨hcz103_0, hcz103_1, hcz103_2, hfz103_0, hfz103_1, hfz103_2⟩ := cz3 BK1136
                    try go_wp2_with (first | (go_at_call 106; (with_reducible refine (impl_Ball_106.calls k3 _ _ x14_3 t1132 t1133 t1134 false _ ?side1 ?side2 A48.out).mono ?_); (case side1 => refine (Kd.R_reads' (e := 39) (base := w.heap.size) (ok := fun k_ => (k_ ≠ gb1110 ∧ k_ ≠ gb1136)) (n := x14_3.length) (c := co94) ?_).2.2; exact (by (with_reducible repeat (first | apply Kd.R_alloc | apply Kd.R_drewN | apply Kd.R_drew)); exact (Kd.R_mono (Kd.R_far (p := ⟨gb1136, 2, none⟩) (Kd.R_far (p := ⟨gb1136, 1, none⟩) (Kd.R_far (p := ⟨gb1136, 0, none⟩) (Kd.R_mono HO_14.out (fun k_ hk => (⟨hk, hk.2⟩ : _ ∧ k_ ≠ gb1136))) (fun _ hk => hk.2) (.int .i64 t1132)) (fun _ hk => hk.2) (.int .i64 t1133)) (fun _ hk => hk.2) (.int .i64 t1134)) (fun _ h_ => h_.1)))); (case side2 => exact (Kd.R_reads' HO_14.out).2.1); rintro e w104 ⟨rfl, hb⟩; have n0_ := Aside0.mk (Kd.R_below (by (with_reducible repeat (first | apply Kd.R_alloc | apply Kd.R_drewN | apply Kd.R_drew)); exact (Kd.R_mono (Kd.R_far (p := ⟨gb1136, 2, none⟩) (Kd.R_far (p := ⟨gb1136, 1, none⟩) (Kd.R_far (p := ⟨gb1136, 0, none⟩) (Kd.R_types HO_11.out BK1136.out (by decide)) (fun _ hk => hk.2) (.int .i64 t1132)) (fun _ hk => hk.2) (.int .i64 t1133)) (fun _ hk => hk.2) (.int .i64 t1134)) (fun _ h_ => h_.1))) hb); have n1_ := Aside0.mk (Kd.R_below (by (with_reducible repeat (first | apply Kd.R_alloc | apply Kd.R_drewN | apply Kd.R_drew)); exact (Kd.R_mono (Kd.R_far (p := ⟨gb1136, 2, none⟩) (Kd.R_far (p := ⟨gb1136, 1, none⟩) (Kd.R_far (p := ⟨gb1136, 0, none⟩) (Kd.R_mono HO_14.out (fun k_ hk => (⟨hk, hk.2⟩ : _ ∧ k_ ≠ gb1136))) (fun _ hk => hk.2) (.int .i64 t1132)) (fun _ hk => hk.2) (.int .i64 t1133)) (fun _ hk => hk.2) (.int .i64 t1134)) (fun _ h_ => h_.1))) hb); have n2_ := Aside0.mk (Kd.R_below (by (with_reducible repeat (first | apply Kd.R_alloc | apply Kd.R_drewN | apply Kd.R_drew)); exact (Kd.R_mono (Kd.R_far (p := ⟨gb1136, 2, none⟩) (Kd.R_far (p := ⟨gb1136, 1, none⟩) (Kd.R_far (p := ⟨gb1136, 0, none⟩) (Kd.R_types HO_59.out BK1136.out (by decide)) (fun _ hk => hk.2) (.int .i64 t1132)) (fun _ hk => hk.2) (.int .i64 t1133)) (fun _ hk => hk.2) (.int .i64 t1134)) (fun _ h_ => h_.1))) hb); have n3_ := Aside0.mk (blk_below (g := gb1110) (o := .cells #[.int .i64 a2_0, .int .i64 a2_1, .int .i64 a2_2] 39 (0, 0)) (bkF BK1110) hb); have n4_ := Aside0.mk (blk_below (g := gb1130) (o := .cells #[.int .i64 ((rd_T26 x11_1 x61_3).f0.f0), .int .i64 ((rd_T26 x11_1 x61_3).f0.f1), .int .i64 ((rd_T26 x11_1 x61_3).f1.f0), .int .i64 ((rd_T26 x11_1 x61_3).f1.f1)] 26 (0, 0)) (bkF BK1130) hb); have n5_ := Aside0.mk (blk_below (g := gb1136) (o := .cells #[.int .i64 t1132, .int .i64 t1133, .int .i64 t1134] 39 (0, 0)) (by refine dr ?_; refine blk_put (cs := #[.int .i64 t1132, .int .i64 t1133, .int .i64 0]) ?_ 2 _ rfl; refine dr ?_; refine blk_put (cs := #[.int .i64 t1132, .int .i64 0, .int .i64 0]) ?_ 1 _ rfl; refine dr ?_; refine blk_put (cs := #[.int .i64 0, .int .i64 0, .int .i64 0]) ?_ 0 _ rfl; exact bkA BK1136) hb); have n6_ := lB hb; clear HO_11; clear HO_14; clear HO_59; clear BK1110; clear BK1130; clear BK1136; clear HB; have HO_11 := n0_; have HO_14 := n1_; have HO_59 := n2_; have BK1110 := n3_; have BK1130 := n4_; have BK1136 := n5_; have HB := n6_; clear n0_ n1_ n2_ n3_ n4_ n5_ n6_; (try clear hb); (try clear hb2); (try clear hk); (try clear hi); obtain ⟨hcz105_0, hcz105_1, hcz105_2, hfz105_0, hfz105_1, hfz105_2⟩ := cz3 BK1136) | (go_at_call 96; (with_reducible refine (impl_distance.calls k3 a0 t1132 t1133 t1134 0 0 0 t1138 _ A66.out).mono ?_); rintro e w106 ⟨rfl, hb⟩; have n0_ := Aside0.mk (Kd.R_below (rA HO_11) hb); have n1_ := Aside0.mk (Kd.R_below (rA HO_14) hb); have n2_ := Aside0.mk (Kd.R_below (rA HO_59) hb); have n3_ := kB BK1110 hb; have n4_ := kB BK1130 hb; have n5_ := kB BK1136 hb; have n6_ := lB hb; clear HO_11; clear HO_14; clear HO_59; clear BK1110; clear BK1130; clear BK1136; clear HB; have HO_11 := n0_; have HO_14 := n1_; have HO_59 := n2_; have BK1110 := n3_; have BK1130 := n4_; have BK1136 := n5_; have HB := n6_; clear n0_ n1_ n2_ n3_ n4_ n5_ n6_; (try clear hb); (try clear hb2); (try clear hk); (try clear hi)))
                    go_roundg k3
                    case measure => have := HK1.out; have := HK2.out; have := HK3.out; omega
                    case rel => exact ⟨(x14_3), (wrap64 (x61_3 + 1)), hB, H', ⟨by have := HK1.out; have := HK2.out; have := HK3.out; omega⟩, ⟨by (with_reducible repeat (first | apply Kd.R_alloc | apply Kd.R_drewN | apply Kd.R_drew)); exact Kd.R_mono HO_11.out (fun _ hk => trivial)⟩, ⟨by (with_reducible repeat (first | apply Kd.R_alloc | apply Kd.R_drewN | apply Kd.R_drew)); exact Kd.R_mono HO_14.out (fun _ hk => hk.1)⟩, ⟨by (with_reducible repeat (first | apply Kd.R_alloc | apply Kd.R_drewN | apply Kd.R_drew)); exact Kd.R_mono HO_59.out (fun _ hk => trivial)⟩, ⟨bkA BK1110⟩, ⟨blA⟩⟩
                 ·
                  replace c47 := Bool.eq_false_iff.mpr c47
                  subst c47
                  rw [if_neg (show ¬ (false = true) by decide)] at H
                  try dsimp only at H
                  have H' := Aside0.mk H
                  clear H
                  have p1129 : 0 ≤ (x61_3 : Int) := dA
                  have q1129 : x61_3 < (x11_1.length : Int) := dA
                  obtain ⟨ad1129, e1129, hx1129_0, hx1129_1, hx1129_2, hx1129_3⟩ := at_T26 (Kd.R_reads' HO_59.out).2.2 x61_3 p1129 q1129
                  cases e1129
                  replace p1129 := eq_true p1129
                  replace q1129 := eq_true q1129
                  try go_wp2_with (first | ((with_reducible refine gate_dst (N := 17) rfl ?_); refine box_event ?hg (N := 17) ?hd (cs := #[.int .i64 0, .int .i64 0, .int .i64 0, .int .i64 0]) (t := 26) ?hr ?_; (case hd => rfl); (case hg => rfl); (case hr => first | (go_simp; done) | (go_simp; rfl)); intro gb1130 hg w107 hbox hb; have n0_ := Aside0.mk (Kd.R_below (Kd.R_elderB (rA HO_11) gb1130 (Nat.le_of_eq hg.symm)) hb); have n1_ := Aside0.mk (Kd.R_below (rA HO_14) hb); have n2_ := Aside0.mk (Kd.R_below (Kd.R_elderB (rA HO_59) gb1130 (Nat.le_of_eq hg.symm)) hb); have n3_ := kB BK1110 hb; have n4_ := lB hb; have n5_ := Aside0.mk (hbox); have n6_ := sA hg; have n7_ := sA hg; have n8_ := nA hg BK1110; have n9_ := nB hg BK1110; clear HO_11; clear HO_14; clear HO_59; clear BK1110; clear HB; have HO_11 := n0_; have HO_14 := n1_; have HO_59 := n2_; have BK1110 := n3_; have HB := n4_; have BK1130 := n5_; have GW1130 := n6_; have GE1130 := n7_; have NB1110_1130 := n8_; have NB1130_1110 := n9_; clear n0_ n1_ n2_ n3_ n4_ n5_ n6_ n7_ n8_ n9_; clear hb hbox hg; have hnb108 := NB1130_1110.out; have hnc108 := NB1110_1130.out; obtain ⟨hcz109_0, hcz109_1, hcz109_2, hcz109_3, hfz109_0, hfz109_1, hfz109_2, hfz109_3⟩ := cz4 BK1130))
                  have n0_ : Aside0 (Kd.R k26 26 ((((w107.setCell ⟨gb1130, 0, none⟩ (.int .i64 ((rd_T26 x11_1 x61_3).f0.f0))).setCell ⟨gb1130, 1, none⟩ (.int .i64 ((rd_T26 x11_1 x61_3).f0.f1))).setCell ⟨gb1130, 2, none⟩ (.int .i64 ((rd_T26 x11_1 x61_3).f1.f0))).setCell ⟨gb1130, 3, none⟩ (.int .i64 ((rd_T26 x11_1 x61_3).f1.f1))) w.heap.size (fun k_ => k_ ≠ gb1130) (.slice (some ad1129) x11_1.length co40) x11_1) := ⟨by (with_reducible repeat (first | apply Kd.R_alloc | apply Kd.R_drewN | apply Kd.R_drew)); exact Kd.R_mono (Kd.R_far (p := ⟨gb1130, 3, none⟩) (Kd.R_far (p := ⟨gb1130, 2, none⟩) (Kd.R_far (p := ⟨gb1130, 1, none⟩) (Kd.R_far (p := ⟨gb1130, 0, none⟩) (Kd.R_mono HO_11.out (fun k_ hk => (⟨hk, hk.2⟩ : _ ∧ k_ ≠ gb1130))) (fun _ hk => hk.2) (.int .i64 ((rd_T26 x11_1 x61_3).f0.f0))) (fun _ hk => hk.2) (.int .i64 ((rd_T26 x11_1 x61_3).f0.f1))) (fun _ hk => hk.2) (.int .i64 ((rd_T26 x11_1 x61_3).f1.f0))) (fun _ hk => hk.2) (.int .i64 ((rd_T26 x11_1 x61_3).f1.f1))) (fun _ hk => hk.1.2)⟩
                  have n1_ : Aside0 (Kd.R k39 39 ((((w107.setCell ⟨gb1130, 0, none⟩ (.int .i64 ((rd_T26 x11_1 x61_3).f0.f0))).setCell ⟨gb1130, 1, none⟩ (.int .i64 ((rd_T26 x11_1 x61_3).f0.f1))).setCell ⟨gb1130, 2, none⟩ (.int .i64 ((rd_T26 x11_1 x61_3).f1.f0))).setCell ⟨gb1130, 3, none⟩ (.int .i64 ((rd_T26 x11_1 x61_3).f1.f1))) w.heap.size (fun k_ => k_ ≠ gb1110) u14 x14_3) := ⟨by (with_reducible repeat (first | apply Kd.R_alloc | apply Kd.R_drewN | apply Kd.R_drew)); exact Kd.R_mono (Kd.R_far (p := ⟨gb1130, 3, none⟩) (Kd.R_far (p := ⟨gb1130, 2, none⟩) (Kd.R_far (p := ⟨gb1130, 1, none⟩) (Kd.R_far (p := ⟨gb1130, 0, none⟩) (Kd.R_types HO_14.out BK1130.out (by decide)) (fun _ hk => hk.2) (.int .i64 ((rd_T26 x11_1 x61_3).f0.f0))) (fun _ hk => hk.2) (.int .i64 ((rd_T26 x11_1 x61_3).f0.f1))) (fun _ hk => hk.2) (.int .i64 ((rd_T26 x11_1 x61_3).f1.f0))) (fun _ hk => hk.2) (.int .i64 ((rd_T26 x11_1 x61_3).f1.f1))) (fun _ hk => hk.1)⟩
                  have n2_ : Aside0 (Kd.R k26 26 ((((w107.setCell ⟨gb1130, 0, none⟩ (.int .i64 ((rd_T26 x11_1 x61_3).f0.f0))).setCell ⟨gb1130, 1, none⟩ (.int .i64 ((rd_T26 x11_1 x61_3).f0.f1))).setCell ⟨gb1130, 2, none⟩ (.int .i64 ((rd_T26 x11_1 x61_3).f1.f0))).setCell ⟨gb1130, 3, none⟩ (.int .i64 ((rd_T26 x11_1 x61_3).f1.f1))) w.heap.size (fun k_ => k_ ≠ gb1130) (.slice (some ad1129) x11_1.length co40) x11_1) := ⟨by (with_reducible repeat (first | apply Kd.R_alloc | apply Kd.R_drewN | apply Kd.R_drew)); exact Kd.R_mono (Kd.R_far (p := ⟨gb1130, 3, none⟩) (Kd.R_far (p := ⟨gb1130, 2, none⟩) (Kd.R_far (p := ⟨gb1130, 1, none⟩) (Kd.R_far (p := ⟨gb1130, 0, none⟩) (Kd.R_mono HO_59.out (fun k_ hk => (⟨hk, hk.2⟩ : _ ∧ k_ ≠ gb1130))) (fun _ hk => hk.2) (.int .i64 ((rd_T26 x11_1 x61_3).f0.f0))) (fun _ hk => hk.2) (.int .i64 ((rd_T26 x11_1 x61_3).f0.f1))) (fun _ hk => hk.2) (.int .i64 ((rd_T26 x11_1 x61_3).f1.f0))) (fun _ hk => hk.2) (.int .i64 ((rd_T26 x11_1 x61_3).f1.f1))) (fun _ hk => hk.1.2)⟩
                  have n3_ : Aside0 (((((w107.setCell ⟨gb1130, 0, none⟩ (.int .i64 ((rd_T26 x11_1 x61_3).f0.f0))).setCell ⟨gb1130, 1, none⟩ (.int .i64 ((rd_T26 x11_1 x61_3).f0.f1))).setCell ⟨gb1130, 2, none⟩ (.int .i64 ((rd_T26 x11_1 x61_3).f1.f0))).setCell ⟨gb1130, 3, none⟩ (.int .i64 ((rd_T26 x11_1 x61_3).f1.f1))).heap[gb1110]? = some (.cells #[.int .i64 a2_0, .int .i64 a2_1, .int .i64 a2_2] 39 (0, 0))) := ⟨bkF BK1110⟩
                  have n4_ : Aside0 (((((w107.setCell ⟨gb1130, 0, none⟩ (.int .i64 ((rd_T26 x11_1 x61_3).f0.f0))).setCell ⟨gb1130, 1, none⟩ (.int .i64 ((rd_T26 x11_1 x61_3).f0.f1))).setCell ⟨gb1130, 2, none⟩ (.int .i64 ((rd_T26 x11_1 x61_3).f1.f0))).setCell ⟨gb1130, 3, none⟩ (.int .i64 ((rd_T26 x11_1 x61_3).f1.f1))).heap[gb1130]? = some (.cells #[.int .i64 ((rd_T26 x11_1 x61_3).f0.f0), .int .i64 ((rd_T26 x11_1 x61_3).f0.f1), .int .i64 ((rd_T26 x11_1 x61_3).f1.f0), .int .i64 ((rd_T26 x11_1 x61_3).f1.f1)] 26 (0, 0))) := ⟨by refine dr ?_; refine blk_put (cs := #[.int .i64 ((rd_T26 x11_1 x61_3).f0.f0), .int .i64 ((rd_T26 x11_1 x61_3).f0.f1), .int .i64 ((rd_T26 x11_1 x61_3).f1.f0), .int .i64 0]) ?_ 3 _ rfl; refine dr ?_; refine blk_put (cs := #[.int .i64 ((rd_T26 x11_1 x61_3).f0.f0), .int .i64 ((rd_T26 x11_1 x61_3).f0.f1), .int .i64 0, .int .i64 0]) ?_ 2 _ rfl; refine dr ?_; refine blk_put (cs := #[.int .i64 ((rd_T26 x11_1 x61_3).f0.f0), .int .i64 0, .int .i64 0, .int .i64 0]) ?_ 1 _ rfl; refine dr ?_; refine blk_put (cs := #[.int .i64 0, .int .i64 0, .int .i64 0, .int .i64 0]) ?_ 0 _ rfl; exact bkA BK1130⟩
                  have n5_ : Aside0 (Below w.heap.size w ((((w107.setCell ⟨gb1130, 0, none⟩ (.int .i64 ((rd_T26 x11_1 x61_3).f0.f0))).setCell ⟨gb1130, 1, none⟩ (.int .i64 ((rd_T26 x11_1 x61_3).f0.f1))).setCell ⟨gb1130, 2, none⟩ (.int .i64 ((rd_T26 x11_1 x61_3).f1.f0))).setCell ⟨gb1130, 3, none⟩ (.int .i64 ((rd_T26 x11_1 x61_3).f1.f1)))) := ⟨blA⟩
                  (try clear HO_11)
                  (try clear HO_14)
                  (try clear HO_59)
                  (try clear BK1110)
                  (try clear BK1130)
                  (try clear HB)
                  generalize ((((w107.setCell ⟨gb1130, 0, none⟩ (.int .i64 ((rd_T26 x11_1 x61_3).f0.f0))).setCell ⟨gb1130, 1, none⟩ (.int .i64 ((rd_T26 x11_1 x61_3).f0.f1))).setCell ⟨gb1130, 2, none⟩ (.int .i64 ((rd_T26 x11_1 x61_3).f1.f0))).setCell ⟨gb1130, 3, none⟩ (.int .i64 ((rd_T26 x11_1 x61_3).f1.f1))) = w110 at n0_ n1_ n2_ n3_ n4_ n5_ ⊢
                  have HO_11 := n0_
                  have HO_14 := n1_
                  have HO_59 := n2_
                  have BK1110 := n3_
                  have BK1130 := n4_
                  have HB := n5_
                  clear n0_ n1_ n2_ n3_ n4_ n5_
                  have n0_ := Aside0.mk (Kd.R_drew HO_11.out)
                  have n1_ := Aside0.mk (Kd.R_drew HO_14.out)
                  have n2_ := Aside0.mk (Kd.R_drew HO_59.out)
                  have n3_ := Aside0.mk (blk_drew BK1110.out)
                  have n4_ := Aside0.mk (blk_drew BK1130.out)
                  have n5_ := Aside0.mk (below_drew1 HB.out)
                  clear HO_11
                  clear HO_14
                  clear HO_59
                  clear BK1110
                  clear BK1130
                  clear HB
                  have HO_11 := n0_
                  have HO_14 := n1_
                  have HO_59 := n2_
                  have BK1110 := n3_
                  have BK1130 := n4_
                  have HB := n5_
                  clear n0_ n1_ n2_ n3_ n4_ n5_
                  obtain ⟨Ao112, co112, eo112⟩ := Kd.R_slice HO_14.out
                  (first | subst eo112 | (injection eo112 with f1_ f2_ f3_; have f4_ := f1_.symm; have f5_ := f3_.symm; clear f1_ f2_ f3_; subst f4_; subst f5_))
                  have p1131 : 0 ≤ (x15_2 : Int) := dA
                  have q1131 : x15_2 < (x14_3.length : Int) := dA
                  obtain ⟨ad1131, e1131, hx1131_0, hx1131_1, hx1131_2⟩ := at_T39 (Kd.R_reads' HO_14.out).2.2 x15_2 p1131 q1131
                  cases e1131
                  replace p1131 := eq_true p1131
                  replace q1131 := eq_true q1131
                  refine start_ (n := 13) (S := fun w' => w'.cell? ⟨gb1130, 0, none⟩ = some (.int .i64 ((rd_T26 x11_1 x61_3).f0.f0)) ∧ w'.cell? ⟨gb1130, 1, none⟩ = some (.int .i64 ((rd_T26 x11_1 x61_3).f0.f1)) ∧ w'.cell? ⟨gb1130, 2, none⟩ = some (.int .i64 ((rd_T26 x11_1 x61_3).f1.f0)) ∧ w'.cell? ⟨gb1130, 3, none⟩ = some (.int .i64 ((rd_T26 x11_1 x61_3).f1.f1)) ∧ w'.cell? (ad1131.add ((x15_2).toNat * 3)) = some (.int .i64 ((rd_T39 x14_3 x15_2).f0)) ∧ w'.cell? ⟨(ad1131.add ((x15_2).toNat * 3)).block, (ad1131.add ((x15_2).toNat * 3)).off + 1, none⟩ = some (.int .i64 ((rd_T39 x14_3 x15_2).f1)) ∧ w'.cell? ⟨(ad1131.add ((x15_2).toNat * 3)).block, (ad1131.add ((x15_2).toNat * 3)).off + 2, none⟩ = some (.int .i64 ((rd_T39 x14_3 x15_2).f2))) (ds := []) #[Z, Z, Z, Z, Z, Z, Z, Z, Z, Z, Z, Z, Z] (by kernel_rfl) rfl rfl ⟨cA BK1130 0, cA BK1130 1, cA BK1130 2, cA BK1130 3, hx1131_0, hx1131_1, hx1131_2⟩ (fun hHeld => ?_); refine with_tabW impl_OrbitIn.tab21 impl_OrbitIn.bits21 (fun HT_ HW_ => ?_)
                  generalize w110.drew = w111 at HO_11 HO_14 HO_59 BK1110 BK1130 HB hx1131_0 hx1131_1 hx1131_2 hHeld ⊢
                  refine puA (i := 0) (N := some 66) #[Y, Z, Z, Z, Z, Z, Z, Z, Z, Z, Z, Z, Z] rfl rfl HT_ ?_
                  refine puA (i := 2) (N := some 68) #[Y, Z, Y, Z, Z, Z, Z, Z, Z, Z, Z, Z, Z] rfl rfl HT_ ?_
                  refine puA (i := 3) (N := some 69) #[Y, Z, Y, Y, Z, Z, Z, Z, Z, Z, Z, Z, Z] rfl rfl HT_ ?_
                  refine puA (i := 4) (N := some 70) #[Y, Z, Y, Y, Y, Z, Z, Z, Z, Z, Z, Z, Z] rfl rfl HT_ ?_
                  refine take_ (i := 1) (N := some 67) (v := ?_) (a' := ?_) #[Y, Y, Y, Y, Y, Z, Z, Z, Z, Z, Z, Z, Z] rfl rfl (take_ofW HT_.out HW_.out (by kernel_rfl)) (fun _ _ _ h => h) (Or.inl ⟨by rfl, ?_⟩) hHeld ?_ ?_
                  rotate_left
                  ·
                   rintro w' ⟨s0, s1, s2, s3, s4, s5, s6⟩
                   go_simp
                   with_reducible rfl
                  rotate_left
                  ·
                   simp only [pA]
                   rfl
                  refine take_ (i := 5) (N := some 71) (v := ?_) (a' := ?_) #[Y, Y, Y, Y, Y, Y, Z, Z, Z, Z, Z, Z, Z] rfl rfl (take_ofW HT_.out HW_.out (by kernel_rfl)) (fun _ _ _ h => h) (Or.inl ⟨by rfl, ?_⟩) hHeld ?_ ?_
                  rotate_left
                  ·
                   rintro w' ⟨s0, s1, s2, s3, s4, s5, s6⟩
                   go_simp
                   with_reducible rfl
                  rotate_left
                  ·
                   simp only [pA]
                   rfl
                  refine join_ (σ := Nat) 2 #[Y, Y, Y, Y, Y, Y, Y, Y, Y, Y, Y, Z, Z] (fun s_ => [(72, .tuple #[.agg #[.int .i64 t1132, .int .i64 t1133, .int .i64 t1134], .bool false]), (18, .pointer (some ⟨s_, 0, none⟩)), (65, .tuple #[.agg #[.int .i64 t1132, .int .i64 t1133, .int .i64 t1134], .bool false]), (73, .agg #[.int .i64 t1132, .int .i64 t1133, .int .i64 t1134]), (74, .bool false)]) (fun s_ w' => (w'.cell? ⟨gb1130, 0, none⟩ = some (.int .i64 ((rd_T26 x11_1 x61_3).f0.f0)) ∧ w'.cell? ⟨gb1130, 1, none⟩ = some (.int .i64 ((rd_T26 x11_1 x61_3).f0.f1)) ∧ w'.cell? ⟨gb1130, 2, none⟩ = some (.int .i64 ((rd_T26 x11_1 x61_3).f1.f0)) ∧ w'.cell? ⟨gb1130, 3, none⟩ = some (.int .i64 ((rd_T26 x11_1 x61_3).f1.f1)) ∧ w'.cell? (ad1131.add ((x15_2).toNat * 3)) = some (.int .i64 ((rd_T39 x14_3 x15_2).f0)) ∧ w'.cell? ⟨(ad1131.add ((x15_2).toNat * 3)).block, (ad1131.add ((x15_2).toNat * 3)).off + 1, none⟩ = some (.int .i64 ((rd_T39 x14_3 x15_2).f1)) ∧ w'.cell? ⟨(ad1131.add ((x15_2).toNat * 3)).block, (ad1131.add ((x15_2).toNat * 3)).off + 2, none⟩ = some (.int .i64 ((rd_T39 x14_3 x15_2).f2))) ∧ (Kd.R k26 26 w' w.heap.size (fun k_ => k_ ≠ gb1130) (.slice (some ad1129) x11_1.length co40) x11_1) ∧ (Kd.R k39 39 w' w.heap.size (fun k_ => k_ ≠ gb1110 ∧ k_ ≠ s_) (.slice (some ad1131) x14_3.length co112) x14_3) ∧ (Kd.R k26 26 w' w.heap.size (fun k_ => k_ ≠ gb1130) (.slice (some ad1129) x11_1.length co40) x11_1) ∧ (w'.heap[gb1110]? = some (.cells #[.int .i64 a2_0, .int .i64 a2_1, .int .i64 a2_2] 39 (0, 0))) ∧ (w'.heap[gb1130]? = some (.cells #[.int .i64 ((rd_T26 x11_1 x61_3).f0.f0), .int .i64 ((rd_T26 x11_1 x61_3).f0.f1), .int .i64 ((rd_T26 x11_1 x61_3).f1.f0), .int .i64 ((rd_T26 x11_1 x61_3).f1.f1)] 26 (0, 0))) ∧ (w'.heap[s_]? = some (.cells #[.int .i64 0, .int .i64 0, .int .i64 0] 39 (0, 0))) ∧ (w.heap.size ≤ s_) ∧ (w.heap.size ≤ s_) ∧ (gb1110 ≠ s_) ∧ (s_ ≠ gb1110) ∧ (gb1130 ≠ s_) ∧ (s_ ≠ gb1130) ∧ (Below w.heap.size w w')) ?_ ?_
                  rotate_left
                  ·
                   intro hCont
                   refine two_ (i := 6) (j := 10) (Ni := some 72) (Nj := some 18) #[Y, Y, Y, Y, Y, Y, Y, Z, Z, Z, Z, Z, Z] #[Y, Y, Y, Y, Y, Y, Z, Z, Z, Z, Y, Z, Z] rfl rfl rfl rfl (two_of HT_.out (by kernel_rfl)) (by decide) (by decide) (fun K hK => ?_) (fun K hK => ?_)
                   ·
                    skip
                    refine goes_ Try.func68 (by kernel_rfl) rfl #[.int .i64 a0, .agg #[.int .i64 ((rd_T26 x11_1 x61_3).f0.f0), .int .i64 ((rd_T26 x11_1 x61_3).f0.f1), .int .i64 ((rd_T26 x11_1 x61_3).f1.f0), .int .i64 ((rd_T26 x11_1 x61_3).f1.f1)], .agg #[.int .i64 ((rd_T39 x14_3 x15_2).f0), .int .i64 ((rd_T39 x14_3 x15_2).f1), .int .i64 ((rd_T39 x14_3 x15_2).f2)]] (by rfl) rfl rfl hA ?_
                    with_reducible refine (impl_moveBall.calls k3 a0 ((rd_T26 x11_1 x61_3).f0.f0) ((rd_T26 x11_1 x61_3).f0.f1) ((rd_T26 x11_1 x61_3).f1.f0) ((rd_T26 x11_1 x61_3).f1.f1) ((rd_T39 x14_3 x15_2).f0) ((rd_T39 x14_3 x15_2).f1) ((rd_T39 x14_3 x15_2).f2) t1132 t1133 t1134 false _ A46.out).mono ?_
                    rintro e w113 ⟨rfl, hb⟩
                    have HS4_ := (hb.cell (World.block_lt_of_cell? _ _ (hHeld.2.2.2.2.1))).trans (hHeld.2.2.2.2.1)
                    have HS5_ := (hb.cell (World.block_lt_of_cell? _ _ (hHeld.2.2.2.2.2.1))).trans (hHeld.2.2.2.2.2.1)
                    have HS6_ := (hb.cell (World.block_lt_of_cell? _ _ (hHeld.2.2.2.2.2.2))).trans (hHeld.2.2.2.2.2.2)
                    refine ⟨_, rfl, ?_⟩
                    replace HO_11 := Aside0.mk (Kd.R_below (rA HO_11) hb)
                    replace HO_14 := Aside0.mk (Kd.R_below (rA HO_14) hb)
                    replace HO_59 := Aside0.mk (Kd.R_below (rA HO_59) hb)
                    replace BK1110 := kB BK1110 hb
                    replace BK1130 := kB BK1130 hb
                    replace HB := lB hb
                    (try clear hb)
                    (try clear hb2)
                    (try clear hk)
                    (try clear hi)
                    refine hK.out _ _ ⟨cA BK1130 0, cA BK1130 1, cA BK1130 2, cA BK1130 3, HS4_, HS5_, HS6_⟩ (fun hHeld => ?_)
                    clear hK K
                    refine norm_ (a' := ?_) ?_ ?_
                    rotate_left
                    ·
                     show Act.put _ (some 72) _ = _
                     simp only [pA]
                     rfl
                    refine puA (i := 7) (N := some 65) #[Y, Y, Y, Y, Y, Y, Y, Y, Z, Z, Z, Z, Z] rfl rfl HT_ ?_
                    refine puA (i := 8) (N := some 73) #[Y, Y, Y, Y, Y, Y, Y, Y, Y, Z, Z, Z, Z] rfl rfl HT_ ?_
                    refine puA (i := 9) (N := some 74) #[Y, Y, Y, Y, Y, Y, Y, Y, Y, Y, Z, Z, Z] rfl rfl HT_ ?_
                    refine one_ (i := 10) (N := some 18) #[Y, Y, Y, Y, Y, Y, Y, Y, Y, Y, Y, Z, Z] rfl rfl (one_of HT_.out (by kernel_rfl)) (by decide) (fun K hK => ?_)
                    refine box_step ?hg (N := 18) ?hd (cs := #[.int .i64 0, .int .i64 0, .int .i64 0]) (t := 39) ?hr ?_; (case hd => rfl); (case hg => rfl); (case hr => first | (go_simp; done) | (go_simp; rfl))
                    intro gb1136 hg w114 hbox hb
                    have HS4_ := (hb.cell (World.block_lt_of_cell? _ _ (hHeld.2.2.2.2.1))).trans (hHeld.2.2.2.2.1)
                    have HS5_ := (hb.cell (World.block_lt_of_cell? _ _ (hHeld.2.2.2.2.2.1))).trans (hHeld.2.2.2.2.2.1)
                    have HS6_ := (hb.cell (World.block_lt_of_cell? _ _ (hHeld.2.2.2.2.2.2))).trans (hHeld.2.2.2.2.2.2)
                    have BK1136 := Aside0.mk (hbox)
                    have GW1136 := sA hg
                    have GE1136 := sA hg
                    have NB1110_1136 := nA hg BK1110
                    have NB1136_1110 := nB hg BK1110
                    have NB1130_1136 := nA hg BK1130
                    have NB1136_1130 := nB hg BK1130
                    replace HO_11 := Aside0.mk (Kd.R_below (rA HO_11) hb)
                    replace HO_14 := Aside0.mk (Kd.R_below (Kd.R_elderB (rA HO_14) gb1136 (Nat.le_of_eq hg.symm)) hb)
                    replace HO_59 := Aside0.mk (Kd.R_below (rA HO_59) hb)
                    replace BK1110 := kB BK1110 hb
                    replace BK1130 := kB BK1130 hb
                    replace HB := lB hb
                    clear hb hbox hg
                    refine hK.out _ _ ⟨cA BK1130 0, cA BK1130 1, cA BK1130 2, cA BK1130 3, HS4_, HS5_, HS6_⟩ (fun hHeld => ?_)
                    clear hK K
                    refine norm_ (a' := ?_) ?_ ?_
                    rotate_left
                    ·
                     show Act.put _ (some 18) _ = _
                     simp only [pA]
                     rfl
                    exact norm_ (by simp only [putAll, Act.put, List.setIfInBounds_toArray, List.set_cons_zero, List.set_cons_succ]) (hCont (gb1136) _ ⟨hHeld, (rA HO_11), (rA HO_14), (rA HO_59), (bkA BK1110), (bkA BK1130), (bkA BK1136), GW1136.out, GE1136.out, NB1110_1136.out, NB1136_1110.out, NB1130_1136.out, NB1136_1130.out, blA⟩)
                   ·
                    skip
                    refine box_step ?hg (N := 18) ?hd (cs := #[.int .i64 0, .int .i64 0, .int .i64 0]) (t := 39) ?hr ?_; (case hd => rfl); (case hg => rfl); (case hr => first | (go_simp; done) | (go_simp; rfl))
                    intro gb1136 hg w113 hbox hb
                    have HS4_ := (hb.cell (World.block_lt_of_cell? _ _ (hHeld.2.2.2.2.1))).trans (hHeld.2.2.2.2.1)
                    have HS5_ := (hb.cell (World.block_lt_of_cell? _ _ (hHeld.2.2.2.2.2.1))).trans (hHeld.2.2.2.2.2.1)
                    have HS6_ := (hb.cell (World.block_lt_of_cell? _ _ (hHeld.2.2.2.2.2.2))).trans (hHeld.2.2.2.2.2.2)
                    have BK1136 := Aside0.mk (hbox)
                    have GW1136 := sA hg
                    have GE1136 := sA hg
                    have NB1110_1136 := nA hg BK1110
                    have NB1136_1110 := nB hg BK1110
                    have NB1130_1136 := nA hg BK1130
                    have NB1136_1130 := nB hg BK1130
                    replace HO_11 := Aside0.mk (Kd.R_below (rA HO_11) hb)
                    replace HO_14 := Aside0.mk (Kd.R_below (Kd.R_elderB (rA HO_14) gb1136 (Nat.le_of_eq hg.symm)) hb)
                    replace HO_59 := Aside0.mk (Kd.R_below (rA HO_59) hb)
                    replace BK1110 := kB BK1110 hb
                    replace BK1130 := kB BK1130 hb
                    replace HB := lB hb
                    clear hb hbox hg
                    refine hK.out _ _ ⟨cA BK1130 0, cA BK1130 1, cA BK1130 2, cA BK1130 3, HS4_, HS5_, HS6_⟩ (fun hHeld => ?_)
                    clear hK K
                    refine norm_ (a' := ?_) ?_ ?_
                    rotate_left
                    ·
                     show Act.put _ (some 18) _ = _
                     simp only [pA]
                     rfl
                    refine one_ (i := 6) (N := some 72) #[Y, Y, Y, Y, Y, Y, Y, Z, Z, Z, Y, Z, Z] rfl rfl (one_of HT_.out (by kernel_rfl)) (by decide) (fun K hK => ?_)
                    refine goes_ Try.func68 (by kernel_rfl) rfl #[.int .i64 a0, .agg #[.int .i64 ((rd_T26 x11_1 x61_3).f0.f0), .int .i64 ((rd_T26 x11_1 x61_3).f0.f1), .int .i64 ((rd_T26 x11_1 x61_3).f1.f0), .int .i64 ((rd_T26 x11_1 x61_3).f1.f1)], .agg #[.int .i64 ((rd_T39 x14_3 x15_2).f0), .int .i64 ((rd_T39 x14_3 x15_2).f1), .int .i64 ((rd_T39 x14_3 x15_2).f2)]] (by rfl) rfl rfl hA ?_
                    with_reducible refine (impl_moveBall.calls k3 a0 ((rd_T26 x11_1 x61_3).f0.f0) ((rd_T26 x11_1 x61_3).f0.f1) ((rd_T26 x11_1 x61_3).f1.f0) ((rd_T26 x11_1 x61_3).f1.f1) ((rd_T39 x14_3 x15_2).f0) ((rd_T39 x14_3 x15_2).f1) ((rd_T39 x14_3 x15_2).f2) t1132 t1133 t1134 false _ A46.out).mono ?_
                    rintro e w114 ⟨rfl, hb⟩
                    have HS4_ := (hb.cell (World.block_lt_of_cell? _ _ (hHeld.2.2.2.2.1))).trans (hHeld.2.2.2.2.1)
                    have HS5_ := (hb.cell (World.block_lt_of_cell? _ _ (hHeld.2.2.2.2.2.1))).trans (hHeld.2.2.2.2.2.1)
                    have HS6_ := (hb.cell (World.block_lt_of_cell? _ _ (hHeld.2.2.2.2.2.2))).trans (hHeld.2.2.2.2.2.2)
                    refine ⟨_, rfl, ?_⟩
                    replace HO_11 := Aside0.mk (Kd.R_below (rA HO_11) hb)
                    replace HO_14 := Aside0.mk (Kd.R_below (rA HO_14) hb)
                    replace HO_59 := Aside0.mk (Kd.R_below (rA HO_59) hb)
                    replace BK1110 := kB BK1110 hb
                    replace BK1130 := kB BK1130 hb
                    replace BK1136 := kB BK1136 hb
                    replace HB := lB hb
                    (try clear hb)
                    (try clear hb2)
                    (try clear hk)
                    (try clear hi)
                    refine hK.out _ _ ⟨cA BK1130 0, cA BK1130 1, cA BK1130 2, cA BK1130 3, HS4_, HS5_, HS6_⟩ (fun hHeld => ?_)
                    clear hK K
                    refine norm_ (a' := ?_) ?_ ?_
                    rotate_left
                    ·
                     show Act.put _ (some 72) _ = _
                     simp only [pA]
                     rfl
                    refine puA (i := 7) (N := some 65) #[Y, Y, Y, Y, Y, Y, Y, Y, Z, Z, Y, Z, Z] rfl rfl HT_ ?_
                    refine puA (i := 8) (N := some 73) #[Y, Y, Y, Y, Y, Y, Y, Y, Y, Z, Y, Z, Z] rfl rfl HT_ ?_
                    refine puA (i := 9) (N := some 74) #[Y, Y, Y, Y, Y, Y, Y, Y, Y, Y, Y, Z, Z] rfl rfl HT_ ?_
                    exact norm_ (by simp only [putAll, Act.put, List.setIfInBounds_toArray, List.set_cons_zero, List.set_cons_succ]) (hCont (gb1136) _ ⟨hHeld, (rA HO_11), (rA HO_14), (rA HO_59), (bkA BK1110), (bkA BK1130), (bkA BK1136), GW1136.out, GE1136.out, NB1110_1136.out, NB1136_1110.out, NB1130_1136.out, NB1136_1130.out, blA⟩)
                  rintro gb1136 w115 ⟨hS_, h0_, h1_, h2_, h3_, h4_, h5_, h6_, h7_, h8_, h9_, h10_, h11_, h12_⟩
                  have BK1136 := Aside0.mk h5_
                  have GW1136 := Aside0.mk h6_
                  have GE1136 := Aside0.mk h7_
                  have NB1110_1136 := Aside0.mk h8_
                  have NB1136_1110 := Aside0.mk h9_
                  have NB1130_1136 := Aside0.mk h10_
                  have NB1136_1130 := Aside0.mk h11_
                  replace HO_11 := Aside0.mk h0_
                  replace HO_14 := Aside0.mk h1_
                  replace HO_59 := Aside0.mk h2_
                  replace BK1110 := Aside0.mk h3_
                  replace BK1130 := Aside0.mk h4_
                  replace HB := Aside0.mk h12_
                  clear h0_ h1_ h2_ h3_ h4_ h5_ h6_ h7_ h8_ h9_ h10_ h11_ h12_
                  have hHeld : w115.cell? ⟨gb1130, 0, none⟩ = some (.int .i64 ((rd_T26 x11_1 x61_3).f0.f0)) ∧ w115.cell? ⟨gb1130, 1, none⟩ = some (.int .i64 ((rd_T26 x11_1 x61_3).f0.f1)) ∧ w115.cell? ⟨gb1130, 2, none⟩ = some (.int .i64 ((rd_T26 x11_1 x61_3).f1.f0)) ∧ w115.cell? ⟨gb1130, 3, none⟩ = some (.int .i64 ((rd_T26 x11_1 x61_3).f1.f1)) ∧ w115.cell? (ad1131.add ((x15_2).toNat * 3)) = some (.int .i64 ((rd_T39 x14_3 x15_2).f0)) ∧ w115.cell? ⟨(ad1131.add ((x15_2).toNat * 3)).block, (ad1131.add ((x15_2).toNat * 3)).off + 1, none⟩ = some (.int .i64 ((rd_T39 x14_3 x15_2).f1)) ∧ w115.cell? ⟨(ad1131.add ((x15_2).toNat * 3)).block, (ad1131.add ((x15_2).toNat * 3)).off + 2, none⟩ = some (.int .i64 ((rd_T39 x14_3 x15_2).f2)) := hS_
                  refine norm_ (a' := ?_) ?_ ?_
                  rotate_left
                  ·
                   simp only [putAll, Act.put, List.setIfInBounds_toArray, List.set_cons_zero, List.set_cons_succ]
                   rfl
                  refine one_ (i := 11) (N := none) #[Y, Y, Y, Y, Y, Y, Y, Y, Y, Y, Y, Y, Z] rfl rfl (one_of HT_.out (by kernel_rfl)) (by decide) (fun K hK => ?_)
                  have hs116 : w115.cell? ⟨gb1136, 0, none⟩ = some (.int .i64 0) := cA BK1136 0
                  have hfs116 := blk_frozen BK1136.out 0
                  have hns116_0 := NB1110_1136.out
                  have hns116_1 := NB1130_1136.out
                  have hms116_0 := NB1136_1110.out
                  have hms116_1 := NB1136_1130.out
                  have hs117 : w115.cell? ⟨gb1136, 1, none⟩ = some (.int .i64 0) := cA BK1136 1
                  have hfs117 := blk_frozen BK1136.out 1
                  have hns117_0 := NB1110_1136.out
                  have hns117_1 := NB1130_1136.out
                  have hms117_0 := NB1136_1110.out
                  have hms117_1 := NB1136_1130.out
                  have hs118 : w115.cell? ⟨gb1136, 2, none⟩ = some (.int .i64 0) := cA BK1136 2
                  have hfs118 := blk_frozen BK1136.out 2
                  have hns118_0 := NB1110_1136.out
                  have hns118_1 := NB1130_1136.out
                  have hms118_0 := NB1136_1110.out
                  have hms118_1 := NB1136_1130.out
                  refine skip_ (w1 := ?_) (by rfl) rfl ?_ ?_
                  rotate_left
                  ·
                   go_simp
                   rfl
                  refine hK.out _ _ ⟨((cell_far (p := ⟨gb1136, _, none⟩) NB1130_1136.out _).trans (((cell_far (p := ⟨gb1136, _, none⟩) NB1130_1136.out _).trans (((cell_far (p := ⟨gb1136, _, none⟩) NB1130_1136.out _).trans (hHeld.1)))))), ((cell_far (p := ⟨gb1136, _, none⟩) NB1130_1136.out _).trans (((cell_far (p := ⟨gb1136, _, none⟩) NB1130_1136.out _).trans (((cell_far (p := ⟨gb1136, _, none⟩) NB1130_1136.out _).trans (hHeld.2.1)))))), ((cell_far (p := ⟨gb1136, _, none⟩) NB1130_1136.out _).trans (((cell_far (p := ⟨gb1136, _, none⟩) NB1130_1136.out _).trans (((cell_far (p := ⟨gb1136, _, none⟩) NB1130_1136.out _).trans (hHeld.2.2.1)))))), ((cell_far (p := ⟨gb1136, _, none⟩) NB1130_1136.out _).trans (((cell_far (p := ⟨gb1136, _, none⟩) NB1130_1136.out _).trans (((cell_far (p := ⟨gb1136, _, none⟩) NB1130_1136.out _).trans (hHeld.2.2.2.1)))))), ((cell_far (p := ⟨gb1136, _, none⟩) (fB (Kd.own_blk (Kd.R_away HO_14.out (fun _ hk => hk.2)))) _).trans (((cell_far (p := ⟨gb1136, _, none⟩) (fB (Kd.own_blk (Kd.R_away HO_14.out (fun _ hk => hk.2)))) _).trans (((cell_far (p := ⟨gb1136, _, none⟩) (fB (Kd.own_blk (Kd.R_away HO_14.out (fun _ hk => hk.2)))) _).trans (hHeld.2.2.2.2.1)))))), ((cell_far (p := ⟨gb1136, _, none⟩) (fB (Kd.own_blk (Kd.R_away HO_14.out (fun _ hk => hk.2)))) _).trans (((cell_far (p := ⟨gb1136, _, none⟩) (fB (Kd.own_blk (Kd.R_away HO_14.out (fun _ hk => hk.2)))) _).trans (((cell_far (p := ⟨gb1136, _, none⟩) (fB (Kd.own_blk (Kd.R_away HO_14.out (fun _ hk => hk.2)))) _).trans (hHeld.2.2.2.2.2.1)))))), ((cell_far (p := ⟨gb1136, _, none⟩) (fB (Kd.own_blk (Kd.R_away HO_14.out (fun _ hk => hk.2)))) _).trans (((cell_far (p := ⟨gb1136, _, none⟩) (fB (Kd.own_blk (Kd.R_away HO_14.out (fun _ hk => hk.2)))) _).trans (((cell_far (p := ⟨gb1136, _, none⟩) (fB (Kd.own_blk (Kd.R_away HO_14.out (fun _ hk => hk.2)))) _).trans (hHeld.2.2.2.2.2.2))))))⟩ (fun hHeld => ?_)
                  clear hK K
                  refine puA (i := 12) (N := some 19) #[Y, Y, Y, Y, Y, Y, Y, Y, Y, Y, Y, Y, Y] rfl rfl HT_ ?_
                  refine done_ (done_of HT_.out (by kernel_rfl)) ?_
                  try go_wp2
                  go_roundg k3
                  case measure => have := HK1.out; have := HK2.out; have := HK3.out; omega
                  case rel => exact ⟨(x14_3), (wrap64 (x61_3 + 1)), hB, H', ⟨by have := HK1.out; have := HK2.out; have := HK3.out; omega⟩, ⟨by (with_reducible repeat (first | apply Kd.R_alloc | apply Kd.R_drewN | apply Kd.R_drew)); exact Kd.R_mono (Kd.R_far (p := ⟨gb1136, 2, none⟩) (Kd.R_far (p := ⟨gb1136, 1, none⟩) (Kd.R_far (p := ⟨gb1136, 0, none⟩) (Kd.R_types HO_11.out BK1136.out (by decide)) (fun _ hk => hk.2) (.int .i64 t1132)) (fun _ hk => hk.2) (.int .i64 t1133)) (fun _ hk => hk.2) (.int .i64 t1134)) (fun _ hk => trivial)⟩, ⟨by (with_reducible repeat (first | apply Kd.R_alloc | apply Kd.R_drewN | apply Kd.R_drew)); exact Kd.R_mono (Kd.R_far (p := ⟨gb1136, 2, none⟩) (Kd.R_far (p := ⟨gb1136, 1, none⟩) (Kd.R_far (p := ⟨gb1136, 0, none⟩) (Kd.R_mono HO_14.out (fun k_ hk => (⟨hk, hk.2⟩ : _ ∧ k_ ≠ gb1136))) (fun _ hk => hk.2) (.int .i64 t1132)) (fun _ hk => hk.2) (.int .i64 t1133)) (fun _ hk => hk.2) (.int .i64 t1134)) (fun _ hk => hk.1.1)⟩, ⟨by (with_reducible repeat (first | apply Kd.R_alloc | apply Kd.R_drewN | apply Kd.R_drew)); exact Kd.R_mono (Kd.R_far (p := ⟨gb1136, 2, none⟩) (Kd.R_far (p := ⟨gb1136, 1, none⟩) (Kd.R_far (p := ⟨gb1136, 0, none⟩) (Kd.R_types HO_59.out BK1136.out (by decide)) (fun _ hk => hk.2) (.int .i64 t1132)) (fun _ hk => hk.2) (.int .i64 t1133)) (fun _ hk => hk.2) (.int .i64 t1134)) (fun _ hk => trivial)⟩, ⟨bkF BK1110⟩, ⟨blA⟩⟩
                ·
                 rw [if_neg c45] at H
                 exact absurd H (by simp)
               ·
                rw [if_neg c44] at H
                exact absurd H (by simp)
              ·
               rw [if_neg c43] at H
               exact absurd H (by simp)
             ·
              rw [if_neg c42] at H
              exact absurd H (by simp)
            ·
             rw [if_neg c41] at H
             have c41b0 := decide_eq_false c41
             clear c41
             have H' := Aside0.mk H
             clear H
             go_wp2
             go_roundg k3
             case measure => have := HK1.out; have := HK2.out; have := HK3.out; omega
             case rel => exact ⟨(x14_3), (wrap64 (x15_2 + 1)), hB, H', ⟨by have := HK1.out; have := HK2.out; have := HK3.out; omega⟩, ⟨rA HO_11⟩, ⟨rA HO_14⟩, ⟨bkA BK1110⟩, ⟨blA⟩⟩
         ·
          rw [if_neg c38] at H
          have c38b0 := decide_eq_false c38
          clear c38
          simp only [Option.some.injEq, Prod.mk.injEq] at H
          obtain ⟨rfl, rfl⟩ := H
          obtain ⟨Ao119, co119, eo119⟩ := Kd.R_slice HO_14.out
          subst eo119
          go_wp2
          go_ret2
          exact ⟨_, by first | rfl | (simp [errW_none, errW_some] <;> rfl) | (simp [*, errW_none, errW_some] <;> rfl), by (with_reducible repeat (first | apply Kd.R_alloc | apply Kd.R_drewN | apply Kd.R_drew)); exact Kd.R_mono HO_14.out (fun _ hk => trivial), blA⟩
  ·
   rw [if_neg c8] at H
   have c8b0 : (t1112 == 0) = false := beq_eq_false_iff_ne.mpr c8
   have c8b1 : (t1112 != 0) = true := bne_iff_ne.mpr c8
   simp only [Option.some.injEq, Prod.mk.injEq] at H
   obtain ⟨rfl, rfl⟩ := H
   go_enter Try.func42, Try.ntmps42
   go_wp2_with (first | ((with_reducible refine gate_dst (N := 6) rfl ?_); refine box_event ?hg (N := 6) ?hd (cs := #[.int .i64 a2_0, .int .i64 a2_1, .int .i64 a2_2]) (t := 39) ?hr ?_; (case hd => rfl); (case hg => rfl); (case hr => first | (go_simp; done) | (go_simp; rfl)); intro gb1110 hg w120 hbox hb; have n0_ := lB hb; have n1_ := Aside0.mk (hbox); have n2_ := sA hg; have n3_ := sA hg; clear HB; have HB := n0_; have BK1110 := n1_; have GW1110 := n2_; have GE1110 := n3_; clear n0_ n1_ n2_ n3_; clear hb hbox hg; obtain ⟨hcz121_0, hcz121_1, hcz121_2, hfz121_0, hfz121_1, hfz121_2⟩ := cz3 BK1110) | ((with_reducible refine gate_callee (f := 35) rfl ?_); refine goesL_ (some 22) rfl rfl Try.func35 (by kernel_rfl) rfl #[.int .i64 a0, .agg #[.int .i64 a2_0, .int .i64 a2_1, .int .i64 a2_2]] rfl hA ?_; (with_reducible refine (impl_IsBall.calls k a0 a2_0 a2_1 a2_2 true _ A5.out).mono ?_); rintro e w122 ⟨rfl, hb⟩; refine ⟨_, rfl, ?_⟩; have n0_ := kB BK1110 hb; have n1_ := lB hb; clear BK1110; clear HB; have BK1110 := n0_; have HB := n1_; clear n0_ n1_; (try clear hb); (try clear hb2); (try clear hk); (try clear hi)) | ((with_reducible refine gate_callee (f := 104) rfl ?_); refine goesL_ (some 27) rfl rfl Try.func104 (by kernel_rfl) rfl #[.int .i64 a0, .slice A1 l1.length c1, .int .i64 a3] rfl hA ?_; (with_reducible refine (impl_regionCode.calls k a0 _ _ l1 a3 t1112 _ ?side1 ?side2 A7.out).mono ?_); (case side1 => repeat (first | exact (Kd.C_below HR1.out HB.out) | (with_reducible refine Kd.C_alloc ?_ _) | (with_reducible refine Kd.C_drewN ?_ _) | (with_reducible refine Kd.C_drew ?_))); (case side2 => exact HC1.out); rintro e w123 ⟨rfl, hb⟩; refine ⟨_, rfl, ?_⟩; have n0_ := kB BK1110 hb; have n1_ := lB hb; clear BK1110; clear HB; have BK1110 := n0_; have HB := n1_; clear n0_ n1_; (try clear hb); (try clear hb2); (try clear hk); (try clear hi)))
   go_ret2
   exact ⟨_, by first | rfl | (simp [errW_none, errW_some] <;> rfl) | (simp [*, errW_none, errW_some] <;> rfl), by first | exact Kd.R_nil _ _ _ _ _ | exact Kd.N_nil _ _ _ _ _ | exact Kd.V_nil _ _ _ _ _ | exact Kd.Q_nil _ _ _ _ _ | exact Kd.S_nil _ _ _ _ _, blA⟩
 ·
  replace c6 := Bool.eq_false_iff.mpr c6
  subst c6
  rw [if_neg (show ¬ (false = true) by decide)] at H
  try dsimp only at H
  simp only [Option.some.injEq, Prod.mk.injEq] at H
  obtain ⟨rfl, rfl⟩ := H
  go_enter Try.func42, Try.ntmps42
  go_wp2_with (first | ((with_reducible refine gate_dst (N := 6) rfl ?_); refine box_event ?hg (N := 6) ?hd (cs := #[.int .i64 a2_0, .int .i64 a2_1, .int .i64 a2_2]) (t := 39) ?hr ?_; (case hd => rfl); (case hg => rfl); (case hr => first | (go_simp; done) | (go_simp; rfl)); intro gb1110 hg w124 hbox hb; have n0_ := lB hb; have n1_ := Aside0.mk (hbox); have n2_ := sA hg; have n3_ := sA hg; clear HB; have HB := n0_; have BK1110 := n1_; have GW1110 := n2_; have GE1110 := n3_; clear n0_ n1_ n2_ n3_; clear hb hbox hg; obtain ⟨hcz125_0, hcz125_1, hcz125_2, hfz125_0, hfz125_1, hfz125_2⟩ := cz3 BK1110) | ((with_reducible refine gate_callee (f := 35) rfl ?_); refine goesL_ (some 22) rfl rfl Try.func35 (by kernel_rfl) rfl #[.int .i64 a0, .agg #[.int .i64 a2_0, .int .i64 a2_1, .int .i64 a2_2]] rfl hA ?_; (with_reducible refine (impl_IsBall.calls k a0 a2_0 a2_1 a2_2 false _ A5.out).mono ?_); rintro e w126 ⟨rfl, hb⟩; refine ⟨_, rfl, ?_⟩; have n0_ := kB BK1110 hb; have n1_ := lB hb; clear BK1110; clear HB; have BK1110 := n0_; have HB := n1_; clear n0_ n1_; (try clear hb); (try clear hb2); (try clear hk); (try clear hi)))
  go_ret2
  exact ⟨_, by first | rfl | (simp [errW_none, errW_some] <;> rfl) | (simp [*, errW_none, errW_some] <;> rfl), by first | exact Kd.R_nil _ _ _ _ _ | exact Kd.N_nil _ _ _ _ _ | exact Kd.V_nil _ _ _ _ _ | exact Kd.Q_nil _ _ _ _ _ | exact Kd.S_nil _ _ _ _ _, blA⟩
end Go.Proofs.Ytccpccnnbacgjaa.PAll
