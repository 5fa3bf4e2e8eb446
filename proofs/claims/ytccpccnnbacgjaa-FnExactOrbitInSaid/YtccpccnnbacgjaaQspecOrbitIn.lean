-- turned for this claim out of the kit's print: the same functions, packed anew
import Derived.Test.YtccpccnnbacgjaaQx
import Derived.Test.YtccpccnnbacgjaaQimplBall69
import Derived.Test.YtccpccnnbacgjaaQimpldistance
import Derived.Test.YtccpccnnbacgjaaQspecl02Join
import Derived.Test.YtccpccnnbacgjaaQspecl04Move
namespace Go.Proofs.Ytccpccnnbacgjaa.PAll
open Go.RowKit Go.Proofs.YtccpccnnbacgjaaW.PrintWords Go.Proofs.YtccpccnnbacgjaaW.PrintLast Go.Proofs.YtccpccnnbacgjaaW.PrintMore
attribute [local go_sem] Go.Proofs.Ytccpccnnbacgjaa.Aux.setCell_drewN Go.Proofs.Ytccpccnnbacgjaa.Aux.isSome_setCell max2_int min2_int max_two min_two max_three min_three max_four min_four   -- for this text's walks alone
set_option linter.unusedVariables false
set_option linter.unusedSimpArgs false
/-! ### spec_OrbitIn: function 40 -/
mutual
def spec_OrbitIn.l0 : Nat → Int → List (S26) → Int → List (S26) → Int → Int → Int → Int → Option ((List (S39)) × Int)
 | 0, _, _, _, _, _, _, _, _ => none
 | k + 1, x0, x1, x3, x11, x12, x1060000, x1060001, x1060002 => if x12 < (x1.length : Int) then (if 0 ≤ x12 then ((spec_l04Inverse.f k ((rd_T26 x1 x12).f0.f0) ((rd_T26 x1 x12).f0.f1) ((rd_T26 x1 x12).f1.f0) ((rd_T26 x1 x12).f1.f1)).bind fun bt1073 => (if x11.length < 4398046511104 then (spec_OrbitIn.l0 k x0 x1 x3 (x11 ++ [(⟨(⟨bt1073.1, bt1073.2.1⟩ : S22), (⟨bt1073.2.2.1, bt1073.2.2.2⟩ : S22)⟩ : S26)]) (wrap64 (x12 + 1)) x1060000 x1060001 x1060002) else (none))) else (none)) else (spec_OrbitIn.l1 k x0 x3 x11 (([(⟨x1060000, x1060001, x1060002⟩ : S39)] : List (S39))) 0)
def spec_OrbitIn.l1 : Nat → Int → Int → List (S26) → List (S39) → Int → Option ((List (S39)) × Int)
 | 0, _, _, _, _, _ => none
 | k + 1, x0, x3, x11, x13, x14 => if x14 < (x13.length : Int) then (spec_OrbitIn.l2 k x0 x3 x11 x13 x14 0) else (some (x13, 0))
def spec_OrbitIn.l2 : Nat → Int → Int → List (S26) → List (S39) → Int → Int → Option ((List (S39)) × Int)
 | 0, _, _, _, _, _, _ => none
 | k + 1, x0, x3, x11, x13, x14, x15 => if x15 < (x11.length : Int) then (if 0 ≤ x15 then (if 0 ≤ x14 then (if x14 < (x13.length : Int) then ((spec_l04Move.f k x0 ((rd_T26 x11 x15).f0.f0) ((rd_T26 x11 x15).f0.f1) ((rd_T26 x11 x15).f1.f0) ((rd_T26 x11 x15).f1.f1) ((rd_T39 x13 x14).f0) ((rd_T39 x13 x14).f1) ((rd_T39 x13 x14).f2)).bind fun bt1085 => (if bt1085.2.2.2 = true then ((spec_l02Distance.f k x0 0 0 0 bt1085.1 bt1085.2.1 bt1085.2.2.1).bind fun t1090 => (if t1090 ≤ x3 then ((spec_l06Find.f k x13 bt1085.1 bt1085.2.1 bt1085.2.2.1).bind fun t1091 => (if t1091 < 0 then (if x13.length < 5864062014805 then (spec_OrbitIn.l2 k x0 x3 x11 (x13 ++ [(⟨bt1085.1, bt1085.2.1, bt1085.2.2.1⟩ : S39)]) x14 (wrap64 (x15 + 1))) else (none)) else (spec_OrbitIn.l2 k x0 x3 x11 x13 x14 (wrap64 (x15 + 1))))) else (spec_OrbitIn.l2 k x0 x3 x11 x13 x14 (wrap64 (x15 + 1))))) else (spec_OrbitIn.l2 k x0 x3 x11 x13 x14 (wrap64 (x15 + 1))))) else (none)) else (none)) else (none)) else (spec_OrbitIn.l1 k x0 x3 x11 x13 (wrap64 (x14 + 1)))
end
def spec_OrbitIn.f (k : Nat) (a0 : Int) (l1 : List (S26)) (a2_0 : Int) (a2_1 : Int) (a2_2 : Int) (a3 : Int) : Option ((List (S39)) × Int) := (spec_l01Code.f k a0 (([(⟨a2_0, a2_1, a2_2⟩ : S39)] : List (S39)))).bind fun t1063 => (if t1063 = 0 then ((spec_l06Code.f k a0 l1 a3).bind fun t1064 => (if t1064 = 0 then ((spec_l02Distance.f k a0 0 0 0 a2_0 a2_1 a2_2).bind fun t1065 => (if t1065 > a3 then (some (([] : List (S39)), 2)) else ((some (([] : List (S26)) : List (S26))).bind fun y1066 => (if y1066.length + l1.length < 4398046511104 then (spec_OrbitIn.l0 k a0 l1 a3 (y1066 ++ l1) 0 a2_0 a2_1 a2_2) else (none))))) else (some (([] : List (S39)), t1064)))) else (some (([] : List (S39)), 1)))
theorem spec_OrbitIn.mono_l : ∀ k, (∀ y0 y1 y2 y3 y4 y5 y6 y7, LeO (spec_OrbitIn.l0 k y0 y1 y2 y3 y4 y5 y6 y7) (spec_OrbitIn.l0 (k + 1) y0 y1 y2 y3 y4 y5 y6 y7)) ∧ (∀ y0 y1 y2 y3 y4, LeO (spec_OrbitIn.l1 k y0 y1 y2 y3 y4) (spec_OrbitIn.l1 (k + 1) y0 y1 y2 y3 y4)) ∧ (∀ y0 y1 y2 y3 y4 y5, LeO (spec_OrbitIn.l2 k y0 y1 y2 y3 y4 y5) (spec_OrbitIn.l2 (k + 1) y0 y1 y2 y3 y4 y5))
 | 0 => ⟨fun _ _ _ _ _ _ _ _ r h => by simp [spec_OrbitIn.l0] at h, fun _ _ _ _ _ r h => by simp [spec_OrbitIn.l1] at h, fun _ _ _ _ _ _ r h => by simp [spec_OrbitIn.l2] at h⟩
 | k + 1 => by
  obtain ⟨ih0, ih1, ih2⟩ := spec_OrbitIn.mono_l k
  refine ⟨?_, ?_, ?_⟩
  ·
   intro y0 y1 y2 y3 y4 y5 y6 y7
   unfold spec_OrbitIn.l0
   repeat' first
   | (with_reducible exact ih0 _ _ _ _ _ _ _ _)
   | (with_reducible exact ih1 _ _ _ _ _)
   | (with_reducible exact ih2 _ _ _ _ _ _)
   | (with_reducible exact spec_l01Code.mono _ _ _)
   | (with_reducible exact spec_l02Distance.mono _ _ _ _ _ _ _ _)
   | (with_reducible exact spec_l04Inverse.mono _ _ _ _ _)
   | (with_reducible exact spec_l04Move.mono _ _ _ _ _ _ _ _ _)
   | (with_reducible exact spec_l06Code.mono _ _ _ _)
   | (with_reducible exact spec_l06Find.mono _ _ _ _ _)
   | (with_reducible exact LeO.refl _)
   | (with_reducible exact LeO.none _)
   | (with_reducible refine LeO.ite ?_ ?_)
   | (with_reducible refine LeO.bind ?_ (fun _ => ?_))
  ·
   intro y0 y1 y2 y3 y4
   unfold spec_OrbitIn.l1
   repeat' first
   | (with_reducible exact ih0 _ _ _ _ _ _ _ _)
   | (with_reducible exact ih1 _ _ _ _ _)
   | (with_reducible exact ih2 _ _ _ _ _ _)
   | (with_reducible exact spec_l01Code.mono _ _ _)
   | (with_reducible exact spec_l02Distance.mono _ _ _ _ _ _ _ _)
   | (with_reducible exact spec_l04Inverse.mono _ _ _ _ _)
   | (with_reducible exact spec_l04Move.mono _ _ _ _ _ _ _ _ _)
   | (with_reducible exact spec_l06Code.mono _ _ _ _)
   | (with_reducible exact spec_l06Find.mono _ _ _ _ _)
   | (with_reducible exact LeO.refl _)
   | (with_reducible exact LeO.none _)
   | (with_reducible refine LeO.ite ?_ ?_)
   | (with_reducible refine LeO.bind ?_ (fun _ => ?_))
  ·
   intro y0 y1 y2 y3 y4 y5
   unfold spec_OrbitIn.l2
   repeat' first
   | (with_reducible exact ih0 _ _ _ _ _ _ _ _)
   | (with_reducible exact ih1 _ _ _ _ _)
   | (with_reducible exact ih2 _ _ _ _ _ _)
   | (with_reducible exact spec_l01Code.mono _ _ _)
   | (with_reducible exact spec_l02Distance.mono _ _ _ _ _ _ _ _)
   | (with_reducible exact spec_l04Inverse.mono _ _ _ _ _)
   | (with_reducible exact spec_l04Move.mono _ _ _ _ _ _ _ _ _)
   | (with_reducible exact spec_l06Code.mono _ _ _ _)
   | (with_reducible exact spec_l06Find.mono _ _ _ _ _)
   | (with_reducible exact LeO.refl _)
   | (with_reducible exact LeO.none _)
   | (with_reducible refine LeO.ite ?_ ?_)
   | (with_reducible refine LeO.bind ?_ (fun _ => ?_))
theorem spec_OrbitIn.mono : ∀ a0 a1 a2 a3 a4 a5 k, LeO (spec_OrbitIn.f k a0 a1 a2 a3 a4 a5) (spec_OrbitIn.f (k + 1) a0 a1 a2 a3 a4 a5) := by
 intro a0 a1 a2 a3 a4 a5 k
 obtain ⟨ih0, ih1, ih2⟩ := spec_OrbitIn.mono_l k
 unfold spec_OrbitIn.f
 repeat' first
   | (with_reducible exact ih0 _ _ _ _ _ _ _ _)
   | (with_reducible exact ih1 _ _ _ _ _)
   | (with_reducible exact ih2 _ _ _ _ _ _)
   | (with_reducible exact spec_l01Code.mono _ _ _)
   | (with_reducible exact spec_l02Distance.mono _ _ _ _ _ _ _ _)
   | (with_reducible exact spec_l04Inverse.mono _ _ _ _ _)
   | (with_reducible exact spec_l04Move.mono _ _ _ _ _ _ _ _ _)
   | (with_reducible exact spec_l06Code.mono _ _ _ _)
   | (with_reducible exact spec_l06Find.mono _ _ _ _ _)
   | (with_reducible exact LeO.refl _)
   | (with_reducible exact LeO.none _)
   | (with_reducible refine LeO.ite ?_ ?_)
   | (with_reducible refine LeO.bind ?_ (fun _ => ?_))
def spec_OrbitIn.T20 : Bool × List (List Nat × List Nat) := (true, [([], []), ([], []), ([], []), ([1, 2], [1, 2]), ([3], [3]), ([], []), ([], []), ([5, 6], [5, 6]), ([7], [7]), ([0, 4, 8], [0, 4, 8]), ([9], [9]), ([10], [10]), ([10], [10]), ([], []), ([13, 11, 9, 0, 1, 2, 3, 4, 5, 6, 7, 8, 9, 10, 11, 13], [11, 13]), ([12, 14, 0, 1, 2, 3, 4, 5, 6, 7, 8, 9, 10, 11, 12, 13, 14], [12])])
def spec_OrbitIn.B20 : List Nat := [0, 0, 0, 6, 14, 0, 0, 96, 224, 511, 1023, 2047, 2047, 0, 12287, 32767]
theorem spec_OrbitIn.tab20 : rtab .any (opsOf Try.f40 20) = spec_OrbitIn.T20 := by kernel_rfl
theorem spec_OrbitIn.bits20 : waitsOk spec_OrbitIn.T20.2 spec_OrbitIn.B20 = true := by kernel_rfl
set_option maxHeartbeats 8000000 in
set_option maxRecDepth 100000 in
theorem spec_OrbitIn.calls (k : Nat) (a0 : Int) (A1 : Option Addr) (c1 : Nat) (l1 : List (S26)) (a2_0 : Int) (a2_1 : Int) (a2_2 : Int) (a3 : Int) (r1 : List (S39)) (r2 : Int) (w : World) (hr1 : Kd.C k26 w A1 l1.length l1) (hc1 : l1.length ≤ c1) (h : spec_OrbitIn.f k a0 l1 a2_0 a2_1 a2_2 a3 = some (r1, r2)) :
  Calls Try.prog 40 #[.int .i64 a0, .slice A1 l1.length c1, .agg #[.int .i64 a2_0, .int .i64 a2_1, .int .i64 a2_2], .int .i64 a3] w fun e w' => ∃ v0_ : Value, e = .returned (.tuple #[v0_, .int .i64 r2]) ∧ Kd.R k39 39 w' w.heap.size (fun _ => True) v0_ r1 ∧ Below w.heap.size w w' := by
 have hu39 := Try.underlying39
 have hu26 := Try.underlying26
 have HR1 := Aside0.mk hr1
 have HC1 := Aside0.mk hc1
 clear hr1 hc1
 have HB := Aside0.mk (Below.refl w.heap.size w)
 have H := h
 unfold spec_OrbitIn.f at H
 clear h
 obtain ⟨y1060, hy1060⟩ : ∃ y_ : List (S39), y_ = (([(⟨a2_0, a2_1, a2_2⟩ : S39)] : List (S39))) := ⟨_, rfl⟩
 replace H : ((spec_l01Code.f k a0 y1060).bind fun t1063 => (if t1063 = 0 then ((spec_l06Code.f k a0 l1 a3).bind fun t1064 => (if t1064 = 0 then ((spec_l02Distance.f k a0 0 0 0 a2_0 a2_1 a2_2).bind fun t1065 => (if t1065 > a3 then (some (([] : List (S39)), 2)) else ((some (([] : List (S26)) : List (S26))).bind fun y1066 => (if y1066.length + l1.length < 4398046511104 then (spec_OrbitIn.l0 k a0 l1 a3 (y1066 ++ l1) 0 a2_0 a2_1 a2_2) else (none))))) else (some (([] : List (S39)), t1064)))) else (some (([] : List (S39)), 1)))) = some (r1, r2) := by first | (rw [hy1060]; with_reducible exact H) | (have H2_ := (Option.bind_some _ _).symm.trans H; rw [hy1060]; with_reducible exact H2_) | (have H2_ := (Option.bind_some _ _).symm.trans H; with_reducible exact H2_) | with_reducible exact H | (rw [hy1060]; exact H) | exact H
 have Ny1060 := Aside0.mk hy1060
 clear hy1060
 replace H := bS H
 obtain ⟨t1063, A5, H⟩ := H
 try dsimp only at H
 by_cases c6 : t1063 = 0
 ·
  rw [if_pos c6] at H
  have c6b0 : (t1063 == 0) = true := beq_iff_eq.mpr c6
  have c6b1 : (t1063 != 0) = false := bne_eq_false_iff_eq.mpr c6
  clear c6
  replace H := bS H
  obtain ⟨t1064, A7, H⟩ := H
  try dsimp only at H
  by_cases c8 : t1064 = 0
  ·
   rw [if_pos c8] at H
   have c8b0 : (t1064 == 0) = true := beq_iff_eq.mpr c8
   have c8b1 : (t1064 != 0) = false := bne_eq_false_iff_eq.mpr c8
   clear c8
   replace H := bS H
   obtain ⟨t1065, A9, H⟩ := H
   try dsimp only at H
   by_cases c10 : t1065 > a3
   ·
    rw [if_pos c10] at H
    have c10b0 : decide (a3 < t1065) = true := decide_eq_true c10
    clear c10
    simp only [Option.some.injEq, Prod.mk.injEq] at H
    obtain ⟨rfl, rfl⟩ := H
    go_enter Try.func40, Try.ntmps40
    go_wp2_with (first | ((with_reducible refine gate_dst (N := 6) rfl ?_); refine box_event ?hg (N := 6) ?hd (cs := #[.int .i64 a2_0, .int .i64 a2_1, .int .i64 a2_2]) (t := 39) ?hr ?_; (case hd => rfl); (case hg => rfl); (case hr => first | (go_simp; done) | (go_simp; rfl)); intro gb1059 hg w11 hbox hb; have n0_ := lB hb; have n1_ := Aside0.mk (hbox); have n2_ := sA hg; have n3_ := sA hg; clear HB; have HB := n0_; have BK1059 := n1_; have GW1059 := n2_; have GE1059 := n3_; clear n0_ n1_ n2_ n3_; clear hb hbox hg; obtain ⟨hcz12_0, hcz12_1, hcz12_2, hfz12_0, hfz12_1, hfz12_2⟩ := cz3 BK1059) | ((with_reducible refine gate_dst (N := 20) rfl ?_); refine Kd.R_lit k39 _ 39 ?hg (N := 20) ?hd (xs := ([(⟨a2_0, a2_1, a2_2⟩ : S39)] : List (S39))) (inner := [.int .i64 a2_0, .int .i64 a2_1, .int .i64 a2_2]) (ok := fun _ => True) (okp := fun _ => True) ?hr ?hp (fun _ hk => hk) trivial (Below.refl _ _) (Nat.le_refl _) (by simp) ?_; (case hd => rfl); (case hg => rfl); (case hr => first | (go_simp; done) | (go_simp; rfl)); (case hp => exact (Reps.c3 (show Kd.M k39 _ _ _ (⟨a2_0, a2_1, a2_2⟩ : S39) [.int .i64 a2_0, .int .i64 a2_1, .int .i64 a2_2] from (k39_mkM _ _ _ (⟨a2_0, a2_1, a2_2⟩ : S39) )) (Reps.none _ _))); intro v1061 w13 ho14 hb hg_ hnew_; clear hg_ hnew_; (first | rw [← Ny1060.out] at ho14 | (simp only [Int.reduceToNat] at ho14; rw [← Ny1060.out] at ho14)); have n0_ := Aside0.mk (Kd.R_lower (Kd.R_newB ho14 (bkA BK1059)) (below_size blA)); have n1_ := kB BK1059 hb; have n2_ := lB hb; clear BK1059; clear HB; have HO1062 := n0_; have BK1059 := n1_; have HB := n2_; clear n0_ n1_ n2_; clear hb ho14; obtain ⟨Ao15, co15, eo15⟩ := Kd.R_slice HO1062.out; subst eo15) | ((with_reducible refine gate_callee (f := 100) rfl ?_); refine goesL_ (some 21) rfl rfl Try.func100 (by kernel_rfl) rfl #[.int .i64 a0, .slice Ao15 y1060.length co15] rfl hA ?_; (with_reducible refine (spec_l01Code.calls k a0 _ _ y1060 t1063 _ ?side1 ?side2 A5.out).mono ?_); (case side1 => repeat (first | exact (Kd.R_reads' HO1062.out).2.2 | (with_reducible refine Kd.C_alloc ?_ _) | (with_reducible refine Kd.C_drewN ?_ _) | (with_reducible refine Kd.C_drew ?_))); (case side2 => exact (Kd.R_reads' HO1062.out).2.1); rintro e w16 ⟨rfl, hb⟩; refine ⟨_, rfl, ?_⟩; have n0_ := Aside0.mk (Kd.R_below (rA HO1062) hb); have n1_ := kB BK1059 hb; have n2_ := lB hb; clear HO1062; clear BK1059; clear HB; have HO1062 := n0_; have BK1059 := n1_; have HB := n2_; clear n0_ n1_ n2_; (try clear hb); (try clear hb2); (try clear hk); (try clear hi)) | ((with_reducible refine gate_callee (f := 101) rfl ?_); refine goesL_ (some 26) rfl rfl Try.func101 (by kernel_rfl) rfl #[.int .i64 a0, .slice A1 l1.length c1, .int .i64 a3] rfl hA ?_; (with_reducible refine (spec_l06Code.calls k a0 _ _ l1 a3 t1064 _ ?side1 ?side2 A7.out).mono ?_); (case side1 => repeat (first | exact (Kd.C_below HR1.out HB.out) | (with_reducible refine Kd.C_alloc ?_ _) | (with_reducible refine Kd.C_drewN ?_ _) | (with_reducible refine Kd.C_drew ?_))); (case side2 => exact HC1.out); rintro e w17 ⟨rfl, hb⟩; refine ⟨_, rfl, ?_⟩; have n0_ := Aside0.mk (Kd.R_below (rA HO1062) hb); have n1_ := kB BK1059 hb; have n2_ := lB hb; clear HO1062; clear BK1059; clear HB; have HO1062 := n0_; have BK1059 := n1_; have HB := n2_; clear n0_ n1_ n2_; (try clear hb); (try clear hb2); (try clear hk); (try clear hi); obtain ⟨hcz18_0, hcz18_1, hcz18_2, hfz18_0, hfz18_1, hfz18_2⟩ := cz3 BK1059) | ((with_reducible refine gate_callee (f := 102) rfl ?_); refine goesL_ (some 33) rfl rfl Try.func102 (by kernel_rfl) rfl #[.int .i64 a0, .agg #[.int .i64 0, .int .i64 0, .int .i64 0], .agg #[.int .i64 a2_0, .int .i64 a2_1, .int .i64 a2_2]] rfl hA ?_; (with_reducible refine (spec_l02Distance.calls k a0 0 0 0 a2_0 a2_1 a2_2 t1065 _ A9.out).mono ?_); rintro e w19 ⟨rfl, hb⟩; refine ⟨_, rfl, ?_⟩; have n0_ := Aside0.mk (Kd.R_below (rA HO1062) hb); have n1_ := kB BK1059 hb; have n2_ := lB hb; clear HO1062; clear BK1059; clear HB; have HO1062 := n0_; have BK1059 := n1_; have HB := n2_; clear n0_ n1_ n2_; (try clear hb); (try clear hb2); (try clear hk); (try clear hi)))
    go_ret2
    exact ⟨_, by first | rfl | (simp [errW_none, errW_some] <;> rfl) | (simp [*, errW_none, errW_some] <;> rfl), by first | exact Kd.R_nil _ _ _ _ _ | exact Kd.N_nil _ _ _ _ _ | exact Kd.V_nil _ _ _ _ _ | exact Kd.Q_nil _ _ _ _ _ | exact Kd.S_nil _ _ _ _ _, blA⟩
   ·
    rw [if_neg c10] at H
    have c10b0 : decide (a3 < t1065) = false := decide_eq_false c10
    clear c10
    obtain ⟨y1066, hy1066⟩ : ∃ y_ : List (S26), y_ = (([] : List (S26))) := ⟨_, rfl⟩
    replace H : (if y1066.length + l1.length < 4398046511104 then (spec_OrbitIn.l0 k a0 l1 a3 (y1066 ++ l1) 0 a2_0 a2_1 a2_2) else (none)) = some (r1, r2) := by first | (rw [hy1066]; with_reducible exact H) | (have H2_ := (Option.bind_some _ _).symm.trans H; rw [hy1066]; with_reducible exact H2_) | (have H2_ := (Option.bind_some _ _).symm.trans H; with_reducible exact H2_) | with_reducible exact H | (rw [hy1066]; exact H) | exact H
    have Ny1066 := Aside0.mk hy1066
    clear hy1066
    by_cases c20 : y1066.length + l1.length < 4398046511104
    ·
     rw [if_pos c20] at H
     have LMc20 := Aside0.mk c20
     clear c20
     obtain ⟨y1069, hy1069⟩ : ∃ y_ : List (S26), y_ = (y1066 ++ l1) := ⟨_, rfl⟩
     replace H : (spec_OrbitIn.l0 k a0 l1 a3 y1069 0 a2_0 a2_1 a2_2) = some (r1, r2) := by first | (rw [hy1069]; with_reducible exact H) | (have H2_ := (Option.bind_some _ _).symm.trans H; rw [hy1069]; with_reducible exact H2_) | (have H2_ := (Option.bind_some _ _).symm.trans H; with_reducible exact H2_) | with_reducible exact H | (rw [hy1069]; exact H) | exact H
     have Ny1069 := Aside0.mk hy1069
     clear hy1069
     have H' := Aside0.mk H
     clear H
     go_enter Try.func40, Try.ntmps40
     go_wp2_with (first | ((with_reducible refine gate_dst (N := 6) rfl ?_); refine box_event ?hg (N := 6) ?hd (cs := #[.int .i64 a2_0, .int .i64 a2_1, .int .i64 a2_2]) (t := 39) ?hr ?_; (case hd => rfl); (case hg => rfl); (case hr => first | (go_simp; done) | (go_simp; rfl)); intro gb1059 hg w21 hbox hb; have n0_ := lB hb; have n1_ := Aside0.mk (hbox); have n2_ := sA hg; have n3_ := sA hg; clear HB; have HB := n0_; have BK1059 := n1_; have GW1059 := n2_; have GE1059 := n3_; clear n0_ n1_ n2_ n3_; clear hb hbox hg; obtain ⟨hcz22_0, hcz22_1, hcz22_2, hfz22_0, hfz22_1, hfz22_2⟩ := cz3 BK1059) | ((with_reducible refine gate_dst (N := 20) rfl ?_); refine Kd.R_lit k39 _ 39 ?hg (N := 20) ?hd (xs := ([(⟨a2_0, a2_1, a2_2⟩ : S39)] : List (S39))) (inner := [.int .i64 a2_0, .int .i64 a2_1, .int .i64 a2_2]) (ok := fun _ => True) (okp := fun _ => True) ?hr ?hp (fun _ hk => hk) trivial (Below.refl _ _) (Nat.le_refl _) (by simp) ?_; (case hd => rfl); (case hg => rfl); (case hr => first | (go_simp; done) | (go_simp; rfl)); (case hp => exact (Reps.c3 (show Kd.M k39 _ _ _ (⟨a2_0, a2_1, a2_2⟩ : S39) [.int .i64 a2_0, .int .i64 a2_1, .int .i64 a2_2] from (k39_mkM _ _ _ (⟨a2_0, a2_1, a2_2⟩ : S39) )) (Reps.none _ _))); intro v1061 w23 ho24 hb hg_ hnew_; clear hg_ hnew_; (first | rw [← Ny1060.out] at ho24 | (simp only [Int.reduceToNat] at ho24; rw [← Ny1060.out] at ho24)); have n0_ := Aside0.mk (Kd.R_lower (Kd.R_newB ho24 (bkA BK1059)) (below_size blA)); have n1_ := kB BK1059 hb; have n2_ := lB hb; clear BK1059; clear HB; have HO1062 := n0_; have BK1059 := n1_; have HB := n2_; clear n0_ n1_ n2_; clear hb ho24; obtain ⟨Ao25, co25, eo25⟩ := Kd.R_slice HO1062.out; subst eo25) | ((with_reducible refine gate_callee (f := 100) rfl ?_); refine goesL_ (some 21) rfl rfl Try.func100 (by kernel_rfl) rfl #[.int .i64 a0, .slice Ao25 y1060.length co25] rfl hA ?_; (with_reducible refine (spec_l01Code.calls k a0 _ _ y1060 t1063 _ ?side1 ?side2 A5.out).mono ?_); (case side1 => repeat (first | exact (Kd.R_reads' HO1062.out).2.2 | (with_reducible refine Kd.C_alloc ?_ _) | (with_reducible refine Kd.C_drewN ?_ _) | (with_reducible refine Kd.C_drew ?_))); (case side2 => exact (Kd.R_reads' HO1062.out).2.1); rintro e w26 ⟨rfl, hb⟩; refine ⟨_, rfl, ?_⟩; have n0_ := Aside0.mk (Kd.R_below (rA HO1062) hb); have n1_ := kB BK1059 hb; have n2_ := lB hb; clear HO1062; clear BK1059; clear HB; have HO1062 := n0_; have BK1059 := n1_; have HB := n2_; clear n0_ n1_ n2_; (try clear hb); (try clear hb2); (try clear hk); (try clear hi)) | ((with_reducible refine gate_callee (f := 101) rfl ?_); refine goesL_ (some 26) rfl rfl Try.func101 (by kernel_rfl) rfl #[.int .i64 a0, .slice A1 l1.length c1, .int .i64 a3] rfl hA ?_; (with_reducible refine (spec_l06Code.calls k a0 _ _ l1 a3 t1064 _ ?side1 ?side2 A7.out).mono ?_); (case side1 => repeat (first | exact (Kd.C_below HR1.out HB.out) | (with_reducible refine Kd.C_alloc ?_ _) | (with_reducible refine Kd.C_drewN ?_ _) | (with_reducible refine Kd.C_drew ?_))); (case side2 => exact HC1.out); rintro e w27 ⟨rfl, hb⟩; refine ⟨_, rfl, ?_⟩; have n0_ := Aside0.mk (Kd.R_below (rA HO1062) hb); have n1_ := kB BK1059 hb; have n2_ := lB hb; clear HO1062; clear BK1059; clear HB; have HO1062 := n0_; have BK1059 := n1_; have HB := n2_; clear n0_ n1_ n2_; (try clear hb); (try clear hb2); (try clear hk); (try clear hi); obtain ⟨hcz28_0, hcz28_1, hcz28_2, hfz28_0, hfz28_1, hfz28_2⟩ := cz3 BK1059) | ((with_reducible refine gate_callee (f := 102) rfl ?_); refine goesL_ (some 33) rfl rfl Try.func102 (by kernel_rfl) rfl #[.int .i64 a0, .agg #[.int .i64 0, .int .i64 0, .int .i64 0], .agg #[.int .i64 a2_0, .int .i64 a2_1, .int .i64 a2_2]] rfl hA ?_; (with_reducible refine (spec_l02Distance.calls k a0 0 0 0 a2_0 a2_1 a2_2 t1065 _ A9.out).mono ?_); rintro e w29 ⟨rfl, hb⟩; refine ⟨_, rfl, ?_⟩; have n0_ := Aside0.mk (Kd.R_below (rA HO1062) hb); have n1_ := kB BK1059 hb; have n2_ := lB hb; clear HO1062; clear BK1059; clear HB; have HO1062 := n0_; have BK1059 := n1_; have HB := n2_; clear n0_ n1_ n2_; (try clear hb); (try clear hb2); (try clear hk); (try clear hi)) | ((with_reducible refine gate_dst (N := 36) rfl ?_); refine Kd.R_lit k26 _ 26 ?hg (N := 36) ?hd (xs := ([] : List (S26))) (inner := []) (ok := fun _ => True) (okp := fun _ => True) ?hr ?hp (fun _ hk => hk) trivial (Below.refl _ _) (Nat.le_refl _) (by simp) ?_; (case hd => rfl); (case hg => rfl); (case hr => first | (go_simp; done) | (go_simp; rfl)); (case hp => exact (Reps.none _ _)); intro v1067 w30 ho31 hb hg_ hnew_; clear hg_ hnew_; (first | rw [← Ny1066.out] at ho31 | (simp only [Int.reduceToNat] at ho31; rw [← Ny1066.out] at ho31)); have n0_ := Aside0.mk (Kd.R_below (rA HO1062) hb); have n1_ := Aside0.mk (Kd.R_lower ho31 (below_size blA)); have n2_ := kB BK1059 hb; have n3_ := lB hb; clear HO1062; clear BK1059; clear HB; have HO1062 := n0_; have HO1068 := n1_; have BK1059 := n2_; have HB := n3_; clear n0_ n1_ n2_ n3_; clear hb ho31) | ((with_reducible refine gate_builtin (b := .append) (xs := #[.tmp 36, .tmp 37]) rfl ?_); at_builtin; refine Kd.R_append_rows k26 (w0 := w) w.heap.size rfl (.tmp 36) (.tmp 37) 65 26 (.agg #[(.int .i64 0), (.int .i64 0), (.int .i64 0), (.int .i64 0)]) 32 rfl Try.underlying65 info26 rfl (by decide) (by omega) v1067 y1066 l1 _ _ _ (fun _ => True) (fun _ => False) rfl rfl ?aO ?aR (fun _ _ h => h) (fun _ h => h.elim) ?aF ?aB ?aS ?aL ?_; (case aR => repeat (first | exact (Kd.C_below HR1.out HB.out) | (with_reducible refine Kd.C_alloc ?_ _) | (with_reducible refine Kd.C_drewN ?_ _) | (with_reducible refine Kd.C_drew ?_))); (case aB => exact blA); (case aF => exact (fun _ _ => trivial)); (case aO => exact (rA HO1068)); (case aS => exact (below_size blA)); (case aL => have := LMc20.out; omega); intro v1070 w32 ho hb hg hat; rw [← Ny1069.out] at ho; have n0_ := Aside0.mk (blk_grown (bkA BK1059) hg (Kd.R_ne HO1068.out BK1059.out (by decide))); have n1_ := Aside0.mk (Kd.R_over' (rA HO1062) (Kd.R_typed (rA HO1068)) (by decide) hg); have n2_ := Aside0.mk (hb); have n3_ := Aside0.mk (ho); clear BK1059; clear HO1062; clear HB; clear HO1068; have BK1059 := n0_; have HO1062 := n1_; have HB := n2_; have HO1071 := n3_; clear n0_ n1_ n2_ n3_; clear ho hb hg hat))
     go_loopg [11, 12] k (fun kq v11 v12 w' => ∃ (x11_1 : List (S26)) (x12_1 : Int), v12 = .int .i64 x12_1 ∧ Aside0 (spec_OrbitIn.l0 kq a0 l1 a3 x11_1 x12_1 a2_0 a2_1 a2_2 = some (r1, r2)) ∧ Aside0 (kq ≤ k) ∧ Aside0 (Kd.R k26 26 w' w.heap.size (fun _ => True) v11 x11_1) ∧ Aside0 (w'.heap[gb1059]? = some (.cells #[.int .i64 a2_0, .int .i64 a2_1, .int .i64 a2_2] 39 (0, 0))) ∧ Aside0 (Below w.heap.size w w'))
     case atStart => exact ⟨(y1069), (0), hB, H', ⟨Nat.le_refl _⟩, ⟨rA HO1071⟩, ⟨bkA BK1059⟩, ⟨blA⟩⟩
     case round =>
      clear H'
      try clear c1
      try clear c3
      try clear c6
      try clear c6b0
      try clear c6b1
      try clear c8
      try clear c8b0
      try clear c8b1
      try clear c10
      try clear c10b0
      try clear c20
      try clear hcz12_0
      try clear hcz12_1
      try clear hcz12_2
      try clear hcz18_0
      try clear hcz18_1
      try clear hcz18_2
      try clear hcz22_0
      try clear hcz22_1
      try clear hcz22_2
      try clear hcz28_0
      try clear hcz28_1
      try clear hcz28_2
      try clear hfz12_0
      try clear hfz12_1
      try clear hfz12_2
      try clear hfz18_0
      try clear hfz18_1
      try clear hfz18_2
      try clear hfz22_0
      try clear hfz22_1
      try clear hfz22_2
      try clear hfz28_0
      try clear hfz28_1
      try clear hfz28_2
      obtain ⟨x11_1, x12_1, rfl, HA, HK1, HO_11, BK1059, HB⟩ := hrel
      cases gk with
      | zero => exact absurd HA.out (by simp [spec_OrbitIn.l0])
      | succ k1 =>
       have H := HA.out
       clear HA
       simp only [spec_OrbitIn.l0] at H
       by_cases c33 : x12_1 < (l1.length : Int)
       ·
        rw [if_pos c33] at H
        have c33b0 := decide_eq_true c33
        clear c33
        by_cases c34 : 0 ≤ x12_1
        ·
         rw [if_pos c34] at H
         have c34b0 := decide_eq_true c34
         clear c34
         replace H := bS H
         obtain ⟨⟨t1073, t1074, t1075, t1076⟩, A35, H⟩ := H
         try dsimp only at H
         by_cases c36 : x11_1.length < 4398046511104
         ·
          rw [if_pos c36] at H
          have LMc36 := Aside0.mk c36
          clear c36
          obtain ⟨y1077, hy1077⟩ : ∃ y_ : List (S26), y_ = (x11_1 ++ [(⟨(⟨t1073, t1074⟩ : S22), (⟨t1075, t1076⟩ : S22)⟩ : S26)]) := ⟨_, rfl⟩
          replace H : (spec_OrbitIn.l0 k1 a0 l1 a3 y1077 (wrap64 (x12_1 + 1)) a2_0 a2_1 a2_2) = some (r1, r2) := by first | (rw [hy1077]; with_reducible exact H) | (have H2_ := (Option.bind_some _ _).symm.trans H; rw [hy1077]; with_reducible exact H2_) | (have H2_ := (Option.bind_some _ _).symm.trans H; with_reducible exact H2_) | with_reducible exact H | (rw [hy1077]; exact H) | exact H
          have Ny1077 := Aside0.mk hy1077
          clear hy1077
          have H' := Aside0.mk H
          clear H
          have p1072 : 0 ≤ (x12_1 : Int) := dA
          have q1072 : x12_1 < (l1.length : Int) := dA
          obtain ⟨ad1072, e1072, hx1072_0, hx1072_1, hx1072_2, hx1072_3⟩ := at_T26 HR1.out x12_1 p1072 q1072
          cases e1072
          replace hx1072_0 := (HB.out.cell (World.block_lt_of_cell? w _ hx1072_0)).trans hx1072_0
          replace hx1072_1 := (HB.out.cell (World.block_lt_of_cell? w _ hx1072_1)).trans hx1072_1
          replace hx1072_2 := (HB.out.cell (World.block_lt_of_cell? w _ hx1072_2)).trans hx1072_2
          replace hx1072_3 := (HB.out.cell (World.block_lt_of_cell? w _ hx1072_3)).trans hx1072_3
          replace p1072 := eq_true p1072
          replace q1072 := eq_true q1072
          go_wp2_with (first | ((with_reducible refine gate_callee (f := 103) rfl ?_); refine goesL_ (some 50) rfl rfl Try.func103 (by kernel_rfl) rfl #[.agg #[.int .i64 ((rd_T26 l1 x12_1).f0.f0), .int .i64 ((rd_T26 l1 x12_1).f0.f1), .int .i64 ((rd_T26 l1 x12_1).f1.f0), .int .i64 ((rd_T26 l1 x12_1).f1.f1)]] rfl hA ?_; (with_reducible refine (spec_l04Inverse.calls k1 ((rd_T26 l1 x12_1).f0.f0) ((rd_T26 l1 x12_1).f0.f1) ((rd_T26 l1 x12_1).f1.f0) ((rd_T26 l1 x12_1).f1.f1) t1073 t1074 t1075 t1076 _ A35.out).mono ?_); rintro e w37 ⟨rfl, hb⟩; refine ⟨_, rfl, ?_⟩; have n0_ := Aside0.mk (Kd.R_below (rA HO_11) hb); have n1_ := kB BK1059 hb; have n2_ := lB hb; clear HO_11; clear BK1059; clear HB; have HO_11 := n0_; have BK1059 := n1_; have HB := n2_; clear n0_ n1_ n2_; (try clear hb); (try clear hb2); (try clear hk); (try clear hi)) | ((with_reducible refine gate_builtin (b := .append) (xs := #[.tmp 45, .tmp 51]) rfl ?_); at_builtin; refine Kd.R_append k26 (w0 := w) w.heap.size rfl (.tmp 45) (.tmp 51) 65 26 (.agg #[(.int .i64 0), (.int .i64 0), (.int .i64 0), (.int .i64 0)]) 32 rfl Try.underlying65 info26 rfl (by decide) (by omega) u11 x11_1 (⟨(⟨t1073, t1074⟩ : S22), (⟨t1075, t1076⟩ : S22)⟩ : S26) [.int .i64 t1073, .int .i64 t1074, .int .i64 t1075, .int .i64 t1076] (fun _ => True) (fun _ => False) rfl rfl ?aP (fun _ hk => hk.elim) ?aF ?aO ?aB ?aS ?aL ?_; (case aP => exact k26_mkM _ _ _ (⟨(⟨t1073, t1074⟩ : S22), (⟨t1075, t1076⟩ : S22)⟩ : S26)); (case aB => exact blA); (case aF => exact (fun _ _ => trivial)); (case aO => exact (rA HO_11)); (case aS => exact (below_size blA)); (case aL => have := LMc36.out; omega); intro v1078 w38 ho hb hg hat; rw [← Ny1077.out] at ho; have n0_ := Aside0.mk (blk_grown (bkA BK1059) hg (Kd.R_ne HO_11.out BK1059.out (by decide))); have n1_ := Aside0.mk (hb); have n2_ := Aside0.mk (ho); clear BK1059; clear HB; clear HO_11; have BK1059 := n0_; have HB := n1_; have HO1079 := n2_; clear n0_ n1_ n2_; clear ho hb hg hat))
          go_roundg k1
          case measure => have := HK1.out; omega
          case rel => exact ⟨(y1077), (wrap64 (x12_1 + 1)), hB, H', ⟨by have := HK1.out; omega⟩, ⟨rA HO1079⟩, ⟨bkA BK1059⟩, ⟨blA⟩⟩
         ·
          rw [if_neg c36] at H
          exact absurd H (by simp)
        ·
         rw [if_neg c34] at H
         exact absurd H (by simp)
       ·
        rw [if_neg c33] at H
        have c33b0 := decide_eq_false c33
        clear c33
        obtain ⟨y1080, hy1080⟩ : ∃ y_ : List (S39), y_ = (([(⟨a2_0, a2_1, a2_2⟩ : S39)] : List (S39))) := ⟨_, rfl⟩
        replace H : (spec_OrbitIn.l1 k1 a0 a3 x11_1 y1080 0) = some (r1, r2) := by first | (rw [hy1080]; with_reducible exact H) | (have H2_ := (Option.bind_some _ _).symm.trans H; rw [hy1080]; with_reducible exact H2_) | (have H2_ := (Option.bind_some _ _).symm.trans H; with_reducible exact H2_) | with_reducible exact H | (rw [hy1080]; exact H) | exact H
        have Ny1080 := Aside0.mk hy1080
        clear hy1080
        have H' := Aside0.mk H
        clear H
        obtain ⟨hcz39_0, hcz39_1, hcz39_2, hfz39_0, hfz39_1, hfz39_2⟩ := cz3 BK1059
        go_wp2_with (first | ((with_reducible refine gate_dst (N := 54) rfl ?_); refine Kd.R_lit k39 _ 39 ?hg (N := 54) ?hd (xs := ([(⟨a2_0, a2_1, a2_2⟩ : S39)] : List (S39))) (inner := [.int .i64 a2_0, .int .i64 a2_1, .int .i64 a2_2]) (ok := fun _ => True) (okp := fun _ => True) ?hr ?hp (fun _ hk => hk) trivial (Below.refl _ _) (Nat.le_refl _) (by simp) ?_; (case hd => rfl); (case hg => rfl); (case hr => first | (go_simp; done) | (go_simp; rfl)); (case hp => exact (Reps.c3 (show Kd.M k39 _ _ _ (⟨a2_0, a2_1, a2_2⟩ : S39) [.int .i64 a2_0, .int .i64 a2_1, .int .i64 a2_2] from (k39_mkM _ _ _ (⟨a2_0, a2_1, a2_2⟩ : S39) )) (Reps.none _ _))); intro v1081 w40 ho41 hb hg_ hnew_; clear hg_ hnew_; (first | rw [← Ny1080.out] at ho41 | (simp only [Int.reduceToNat] at ho41; rw [← Ny1080.out] at ho41)); have n0_ := Aside0.mk (Kd.R_below (rA HO_11) hb); have n1_ := Aside0.mk (Kd.R_lower (Kd.R_newB ho41 (bkA BK1059)) (below_size blA)); have n2_ := kB BK1059 hb; have n3_ := lB hb; clear HO_11; clear BK1059; clear HB; have HO_11 := n0_; have HO1082 := n1_; have BK1059 := n2_; have HB := n3_; clear n0_ n1_ n2_ n3_; clear hb ho41))
        go_loopg [13, 14] k1 (fun kq v13 v14 w' => ∃ (x13_2 : List (S39)) (x14_2 : Int), v14 = .int .i64 x14_2 ∧ Aside0 (spec_OrbitIn.l1 kq a0 a3 x11_1 x13_2 x14_2 = some (r1, r2)) ∧ Aside0 (kq ≤ k1) ∧ Aside0 (Kd.R k26 26 w' w.heap.size (fun _ => True) u11 x11_1) ∧ Aside0 (Kd.R k39 39 w' w.heap.size (fun k_ => k_ ≠ gb1059) v13 x13_2) ∧ Aside0 (w'.heap[gb1059]? = some (.cells #[.int .i64 a2_0, .int .i64 a2_1, .int .i64 a2_2] 39 (0, 0))) ∧ Aside0 (Below w.heap.size w w'))
        case atStart => exact ⟨(y1080), (0), hB, H', ⟨Nat.le_refl _⟩, ⟨rA HO_11⟩, ⟨by (with_reducible repeat (first | apply Kd.R_alloc | apply Kd.R_drewN | apply Kd.R_drew)); exact Kd.R_mono HO1082.out (fun _ hk => hk.2)⟩, ⟨bkA BK1059⟩, ⟨blA⟩⟩
        case round =>
         clear H'
         try clear c1
         try clear c3
         try clear c6
         try clear c6b0
         try clear c6b1
         try clear c8
         try clear c8b0
         try clear c8b1
         try clear c10
         try clear c10b0
         try clear c20
         try clear c33
         try clear c33b0
         try clear c34
         try clear c34b0
         try clear c36
         try clear hcz12_0
         try clear hcz12_1
         try clear hcz12_2
         try clear hcz18_0
         try clear hcz18_1
         try clear hcz18_2
         try clear hcz22_0
         try clear hcz22_1
         try clear hcz22_2
         try clear hcz28_0
         try clear hcz28_1
         try clear hcz28_2
         try clear hcz39_0
         try clear hcz39_1
         try clear hcz39_2
         try clear hfz12_0
         try clear hfz12_1
         try clear hfz12_2
         try clear hfz18_0
         try clear hfz18_1
         try clear hfz18_2
         try clear hfz22_0
         try clear hfz22_1
         try clear hfz22_2
         try clear hfz28_0
         try clear hfz28_1
         try clear hfz28_2
         try clear hfz39_0
         try clear hfz39_1
         try clear hfz39_2
         try clear hx1072_0
         try clear hx1072_1
         try clear hx1072_2
         try clear hx1072_3
         try clear p1072
         try clear q1072
         obtain ⟨x13_2, x14_2, rfl, HA, HK2, HO_11, HO_13, BK1059, HB⟩ := hrel
         cases gk with
         | zero => exact absurd HA.out (by simp [spec_OrbitIn.l1])
         | succ k2 =>
          have H := HA.out
          clear HA
          simp only [spec_OrbitIn.l1] at H
          by_cases c42 : x14_2 < (x13_2.length : Int)
          ·
           rw [if_pos c42] at H
           have c42b0 := decide_eq_true c42
           clear c42
           have H' := Aside0.mk H
           clear H
           obtain ⟨Ao43, co43, eo43⟩ := Kd.R_slice HO_13.out
           subst eo43
           go_wp2
           go_loopg [13, 15] k2 (fun kq v13 v15 w' => ∃ (x13_3 : List (S39)) (x15_3 : Int), v15 = .int .i64 x15_3 ∧ Aside0 (spec_OrbitIn.l2 kq a0 a3 x11_1 x13_3 x14_2 x15_3 = some (r1, r2)) ∧ Aside0 (kq ≤ k2) ∧ Aside0 (Kd.R k26 26 w' w.heap.size (fun _ => True) u11 x11_1) ∧ Aside0 (Kd.R k39 39 w' w.heap.size (fun k_ => k_ ≠ gb1059) v13 x13_3) ∧ Aside0 (w'.heap[gb1059]? = some (.cells #[.int .i64 a2_0, .int .i64 a2_1, .int .i64 a2_2] 39 (0, 0))) ∧ Aside0 (Below w.heap.size w w'))
           case atStart => exact ⟨(x13_2), (0), hB, H', ⟨Nat.le_refl _⟩, ⟨rA HO_11⟩, ⟨rA HO_13⟩, ⟨bkA BK1059⟩, ⟨blA⟩⟩
           case round =>
            clear H'
            try clear c1
            try clear c3
            try clear c6
            try clear c6b0
            try clear c6b1
            try clear c8
            try clear c8b0
            try clear c8b1
            try clear c10
            try clear c10b0
            try clear c20
            try clear c33
            try clear c33b0
            try clear c34
            try clear c34b0
            try clear c36
            try clear c42
            try clear c42b0
            try clear hcz12_0
            try clear hcz12_1
            try clear hcz12_2
            try clear hcz18_0
            try clear hcz18_1
            try clear hcz18_2
            try clear hcz22_0
            try clear hcz22_1
            try clear hcz22_2
            try clear hcz28_0
            try clear hcz28_1
            try clear hcz28_2
            try clear hcz39_0
            try clear hcz39_1
            try clear hcz39_2
            try clear hfz12_0
            try clear hfz12_1
            try clear hfz12_2
            try clear hfz18_0
            try clear hfz18_1
            try clear hfz18_2
            try clear hfz22_0
            try clear hfz22_1
            try clear hfz22_2
            try clear hfz28_0
            try clear hfz28_1
            try clear hfz28_2
            try clear hfz39_0
            try clear hfz39_1
            try clear hfz39_2
            try clear hx1072_0
            try clear hx1072_1
            try clear hx1072_2
            try clear hx1072_3
            try clear p1072
            try clear q1072
            obtain ⟨x13_3, x15_3, rfl, HA, HK3, HO_11, HO_13, BK1059, HB⟩ := hrel
            cases gk with
            | zero => exact absurd HA.out (by simp [spec_OrbitIn.l2])
            | succ k3 =>
             have H := HA.out
             clear HA
             simp only [spec_OrbitIn.l2] at H
             by_cases c44 : x15_3 < (x11_1.length : Int)
             ·
              rw [if_pos c44] at H
              have c44b0 := decide_eq_true c44
              clear c44
              by_cases c45 : 0 ≤ x15_3
              ·
               rw [if_pos c45] at H
               have c45b0 := decide_eq_true c45
               clear c45
               by_cases c46 : 0 ≤ x14_2
               ·
                rw [if_pos c46] at H
                have c46b0 := decide_eq_true c46
                clear c46
                by_cases c47 : x14_2 < (x13_3.length : Int)
                ·
                 rw [if_pos c47] at H
                 have c47b0 := decide_eq_true c47
                 clear c47
                 replace H := bS H
                 obtain ⟨⟨t1085, t1086, t1087, t1088⟩, A48, H⟩ := H
                 try dsimp only at H
                 by_cases c49 : t1088 = true
                 ·
                  subst c49
                  rw [if_pos rfl] at H
                  try dsimp only at H
                  replace H := bS H
                  obtain ⟨t1090, A50, H⟩ := H
                  try dsimp only at H
                  by_cases c51 : t1090 ≤ a3
                  ·
                   rw [if_pos c51] at H
                   have c51b0 := decide_eq_true c51
                   clear c51
                   replace H := bS H
                   obtain ⟨t1091, A52, H⟩ := H
                   try dsimp only at H
                   by_cases c53 : t1091 < 0
                   ·
                    rw [if_pos c53] at H
                    have c53b0 := decide_eq_true c53
                    clear c53
                    by_cases c54 : x13_3.length < 5864062014805
                    ·
                     rw [if_pos c54] at H
                     have LMc54 := Aside0.mk c54
                     clear c54
                     obtain ⟨y1092, hy1092⟩ : ∃ y_ : List (S39), y_ = (x13_3 ++ [(⟨t1085, t1086, t1087⟩ : S39)]) := ⟨_, rfl⟩
                     replace H : (spec_OrbitIn.l2 k3 a0 a3 x11_1 y1092 x14_2 (wrap64 (x15_3 + 1))) = some (r1, r2) := by first | (rw [hy1092]; with_reducible exact H) | (have H2_ := (Option.bind_some _ _).symm.trans H; rw [hy1092]; with_reducible exact H2_) | (have H2_ := (Option.bind_some _ _).symm.trans H; with_reducible exact H2_) | with_reducible exact H | (rw [hy1092]; exact H) | exact H
                     have Ny1092 := Aside0.mk hy1092
                     clear hy1092
                     have H' := Aside0.mk H
                     clear H
                     obtain ⟨Ao55, co55, eo55⟩ := Kd.R_slice HO_11.out
                     subst eo55
                     try go_wp2
                     have n0_ := Aside0.mk (Kd.R_drew HO_11.out)
                     have n1_ := Aside0.mk (Kd.R_drew HO_13.out)
                     have n2_ := Aside0.mk (blk_drew BK1059.out)
                     have n3_ := Aside0.mk (below_drew1 HB.out)
                     clear HO_11
                     clear HO_13
                     clear BK1059
                     clear HB
                     have HO_11 := n0_
                     have HO_13 := n1_
                     have BK1059 := n2_
                     have HB := n3_
                     clear n0_ n1_ n2_ n3_
                     have p1083 : 0 ≤ (x15_3 : Int) := dA
                     have q1083 : x15_3 < (x11_1.length : Int) := dA
                     obtain ⟨ad1083, e1083, hx1083_0, hx1083_1, hx1083_2, hx1083_3⟩ := at_T26 (Kd.R_reads' HO_11.out).2.2 x15_3 p1083 q1083
                     cases e1083
                     replace p1083 := eq_true p1083
                     replace q1083 := eq_true q1083
                     obtain ⟨Ao57, co57, eo57⟩ := Kd.R_slice HO_13.out
                     (first | subst eo57 | (injection eo57 with f1_ f2_ f3_; have f4_ := f1_.symm; have f5_ := f3_.symm; clear f1_ f2_ f3_; subst f4_; subst f5_))
                     have p1084 : 0 ≤ (x14_2 : Int) := dA
                     have q1084 : x14_2 < (x13_3.length : Int) := dA
                     obtain ⟨ad1084, e1084, hx1084_0, hx1084_1, hx1084_2⟩ := at_T39 (Kd.R_reads' HO_13.out).2.2 x14_2 p1084 q1084
                     cases e1084
                     replace p1084 := eq_true p1084
                     replace q1084 := eq_true q1084
                     refine start_ (n := 16) (S := fun w' => w'.cell? (ad1083.add ((x15_3).toNat * 4)) = some (.int .i64 ((rd_T26 x11_1 x15_3).f0.f0)) ∧ w'.cell? ⟨(ad1083.add ((x15_3).toNat * 4)).block, (ad1083.add ((x15_3).toNat * 4)).off + 1, none⟩ = some (.int .i64 ((rd_T26 x11_1 x15_3).f0.f1)) ∧ w'.cell? ⟨(ad1083.add ((x15_3).toNat * 4)).block, (ad1083.add ((x15_3).toNat * 4)).off + 2, none⟩ = some (.int .i64 ((rd_T26 x11_1 x15_3).f1.f0)) ∧ w'.cell? ⟨(ad1083.add ((x15_3).toNat * 4)).block, (ad1083.add ((x15_3).toNat * 4)).off + 3, none⟩ = some (.int .i64 ((rd_T26 x11_1 x15_3).f1.f1)) ∧ w'.cell? (ad1084.add ((x14_2).toNat * 3)) = some (.int .i64 ((rd_T39 x13_3 x14_2).f0)) ∧ w'.cell? ⟨(ad1084.add ((x14_2).toNat * 3)).block, (ad1084.add ((x14_2).toNat * 3)).off + 1, none⟩ = some (.int .i64 ((rd_T39 x13_3 x14_2).f1)) ∧ w'.cell? ⟨(ad1084.add ((x14_2).toNat * 3)).block, (ad1084.add ((x14_2).toNat * 3)).off + 2, none⟩ = some (.int .i64 ((rd_T39 x13_3 x14_2).f2))) (ds := []) #[Z, Z, Z, Z, Z, Z, Z, Z, Z, Z, Z, Z, Z, Z, Z, Z] (by kernel_rfl) rfl rfl ⟨hx1083_0, hx1083_1, hx1083_2, hx1083_3, hx1084_0, hx1084_1, hx1084_2⟩ (fun hHeld => ?_); refine with_tabW spec_OrbitIn.tab20 spec_OrbitIn.bits20 (fun HT_ HW_ => ?_)
                     generalize wr.drew = w56 at HO_11 HO_13 BK1059 HB hx1083_0 hx1083_1 hx1083_2 hx1083_3 hx1084_0 hx1084_1 hx1084_2 hHeld ⊢
                     refine puA (i := 0) (N := some 68) #[Y, Z, Z, Z, Z, Z, Z, Z, Z, Z, Z, Z, Z, Z, Z, Z] rfl rfl HT_ ?_
                     refine puA (i := 1) (N := some 69) #[Y, Y, Z, Z, Z, Z, Z, Z, Z, Z, Z, Z, Z, Z, Z, Z] rfl rfl HT_ ?_
                     refine puA (i := 2) (N := some 70) #[Y, Y, Y, Z, Z, Z, Z, Z, Z, Z, Z, Z, Z, Z, Z, Z] rfl rfl HT_ ?_
                     refine puA (i := 3) (N := some 71) #[Y, Y, Y, Y, Z, Z, Z, Z, Z, Z, Z, Z, Z, Z, Z, Z] rfl rfl HT_ ?_
                     refine puA (i := 5) (N := some 73) #[Y, Y, Y, Y, Z, Y, Z, Z, Z, Z, Z, Z, Z, Z, Z, Z] rfl rfl HT_ ?_
                     refine puA (i := 6) (N := some 74) #[Y, Y, Y, Y, Z, Y, Y, Z, Z, Z, Z, Z, Z, Z, Z, Z] rfl rfl HT_ ?_
                     refine puA (i := 7) (N := some 75) #[Y, Y, Y, Y, Z, Y, Y, Y, Z, Z, Z, Z, Z, Z, Z, Z] rfl rfl HT_ ?_
                     refine take_ (i := 4) (N := some 72) (v := ?_) (a' := ?_) #[Y, Y, Y, Y, Y, Y, Y, Y, Z, Z, Z, Z, Z, Z, Z, Z] rfl rfl (take_ofW HT_.out HW_.out (by kernel_rfl)) (fun _ _ _ h => h) (Or.inl ⟨by rfl, ?_⟩) hHeld ?_ ?_
                     rotate_left
                     ·
                      rintro w' ⟨s0, s1, s2, s3, s4, s5, s6⟩
                      go_simp
                      with_reducible rfl
                     rotate_left
                     ·
                      simp only [pA]
                      rfl
                     refine take_ (i := 8) (N := some 76) (v := ?_) (a' := ?_) #[Y, Y, Y, Y, Y, Y, Y, Y, Y, Z, Z, Z, Z, Z, Z, Z] rfl rfl (take_ofW HT_.out HW_.out (by kernel_rfl)) (fun _ _ _ h => h) (Or.inl ⟨by rfl, ?_⟩) hHeld ?_ ?_
                     rotate_left
                     ·
                      rintro w' ⟨s0, s1, s2, s3, s4, s5, s6⟩
                      go_simp
                      with_reducible rfl
                     rotate_left
                     ·
                      simp only [pA]
                      rfl
                     refine join_ (σ := Nat) 2 #[Y, Y, Y, Y, Y, Y, Y, Y, Y, Y, Y, Y, Y, Y, Z, Z] (fun s_ => [(77, .tuple #[.agg #[.int .i64 t1085, .int .i64 t1086, .int .i64 t1087], .bool true]), (16, .pointer (some ⟨s_, 0, none⟩)), (67, .tuple #[.agg #[.int .i64 t1085, .int .i64 t1086, .int .i64 t1087], .bool true]), (78, .agg #[.int .i64 t1085, .int .i64 t1086, .int .i64 t1087]), (79, .bool true)]) (fun s_ w' => (w'.cell? (ad1083.add ((x15_3).toNat * 4)) = some (.int .i64 ((rd_T26 x11_1 x15_3).f0.f0)) ∧ w'.cell? ⟨(ad1083.add ((x15_3).toNat * 4)).block, (ad1083.add ((x15_3).toNat * 4)).off + 1, none⟩ = some (.int .i64 ((rd_T26 x11_1 x15_3).f0.f1)) ∧ w'.cell? ⟨(ad1083.add ((x15_3).toNat * 4)).block, (ad1083.add ((x15_3).toNat * 4)).off + 2, none⟩ = some (.int .i64 ((rd_T26 x11_1 x15_3).f1.f0)) ∧ w'.cell? ⟨(ad1083.add ((x15_3).toNat * 4)).block, (ad1083.add ((x15_3).toNat * 4)).off + 3, none⟩ = some (.int .i64 ((rd_T26 x11_1 x15_3).f1.f1)) ∧ w'.cell? (ad1084.add ((x14_2).toNat * 3)) = some (.int .i64 ((rd_T39 x13_3 x14_2).f0)) ∧ w'.cell? ⟨(ad1084.add ((x14_2).toNat * 3)).block, (ad1084.add ((x14_2).toNat * 3)).off + 1, none⟩ = some (.int .i64 ((rd_T39 x13_3 x14_2).f1)) ∧ w'.cell? ⟨(ad1084.add ((x14_2).toNat * 3)).block, (ad1084.add ((x14_2).toNat * 3)).off + 2, none⟩ = some (.int .i64 ((rd_T39 x13_3 x14_2).f2))) ∧ (Kd.R k26 26 w' w.heap.size (fun _ => True) (.slice (some ad1083) x11_1.length co55) x11_1) ∧ (Kd.R k39 39 w' w.heap.size (fun k_ => k_ ≠ gb1059 ∧ k_ ≠ s_) (.slice (some ad1084) x13_3.length co57) x13_3) ∧ (w'.heap[gb1059]? = some (.cells #[.int .i64 a2_0, .int .i64 a2_1, .int .i64 a2_2] 39 (0, 0))) ∧ (w'.heap[s_]? = some (.cells #[.int .i64 0, .int .i64 0, .int .i64 0] 39 (0, 0))) ∧ (w.heap.size ≤ s_) ∧ (w.heap.size ≤ s_) ∧ (gb1059 ≠ s_) ∧ (s_ ≠ gb1059) ∧ (Below w.heap.size w w')) ?_ ?_
                     rotate_left
                     ·
                      intro hCont
                      refine two_ (i := 9) (j := 13) (Ni := some 77) (Nj := some 16) #[Y, Y, Y, Y, Y, Y, Y, Y, Y, Y, Z, Z, Z, Z, Z, Z] #[Y, Y, Y, Y, Y, Y, Y, Y, Y, Z, Z, Z, Z, Y, Z, Z] rfl rfl rfl rfl (two_of HT_.out (by kernel_rfl)) (by decide) (by decide) (fun K hK => ?_) (fun K hK => ?_)
                      ·
                       skip
                       refine goes_ Try.func62 (by kernel_rfl) rfl #[.int .i64 a0, .agg #[.int .i64 ((rd_T26 x11_1 x15_3).f0.f0), .int .i64 ((rd_T26 x11_1 x15_3).f0.f1), .int .i64 ((rd_T26 x11_1 x15_3).f1.f0), .int .i64 ((rd_T26 x11_1 x15_3).f1.f1)], .agg #[.int .i64 ((rd_T39 x13_3 x14_2).f0), .int .i64 ((rd_T39 x13_3 x14_2).f1), .int .i64 ((rd_T39 x13_3 x14_2).f2)]] (by rfl) rfl rfl hA ?_
                       with_reducible refine (spec_l04Move.calls k3 a0 ((rd_T26 x11_1 x15_3).f0.f0) ((rd_T26 x11_1 x15_3).f0.f1) ((rd_T26 x11_1 x15_3).f1.f0) ((rd_T26 x11_1 x15_3).f1.f1) ((rd_T39 x13_3 x14_2).f0) ((rd_T39 x13_3 x14_2).f1) ((rd_T39 x13_3 x14_2).f2) t1085 t1086 t1087 true _ A48.out).mono ?_
                       rintro e w58 ⟨rfl, hb⟩
                       have HS0_ := (hb.cell (World.block_lt_of_cell? _ _ (hHeld.1))).trans (hHeld.1)
                       have HS1_ := (hb.cell (World.block_lt_of_cell? _ _ (hHeld.2.1))).trans (hHeld.2.1)
                       have HS2_ := (hb.cell (World.block_lt_of_cell? _ _ (hHeld.2.2.1))).trans (hHeld.2.2.1)
                       have HS3_ := (hb.cell (World.block_lt_of_cell? _ _ (hHeld.2.2.2.1))).trans (hHeld.2.2.2.1)
                       have HS4_ := (hb.cell (World.block_lt_of_cell? _ _ (hHeld.2.2.2.2.1))).trans (hHeld.2.2.2.2.1)
                       have HS5_ := (hb.cell (World.block_lt_of_cell? _ _ (hHeld.2.2.2.2.2.1))).trans (hHeld.2.2.2.2.2.1)
                       have HS6_ := (hb.cell (World.block_lt_of_cell? _ _ (hHeld.2.2.2.2.2.2))).trans (hHeld.2.2.2.2.2.2)
                       refine ⟨_, rfl, ?_⟩
                       replace HO_11 := Aside0.mk (Kd.R_below (rA HO_11) hb)
                       replace HO_13 := Aside0.mk (Kd.R_below (rA HO_13) hb)
                       replace BK1059 := kB BK1059 hb
                       replace HB := lB hb
                       (try clear hb)
                       (try clear hb2)
                       (try clear hk)
                       (try clear hi)
                       refine hK.out _ _ ⟨HS0_, HS1_, HS2_, HS3_, HS4_, HS5_, HS6_⟩ (fun hHeld => ?_)
                       clear hK K
                       refine norm_ (a' := ?_) ?_ ?_
                       rotate_left
                       ·
                        show Act.put _ (some 77) _ = _
                        simp only [pA]
                        rfl
                       refine puA (i := 10) (N := some 67) #[Y, Y, Y, Y, Y, Y, Y, Y, Y, Y, Y, Z, Z, Z, Z, Z] rfl rfl HT_ ?_
                       refine puA (i := 11) (N := some 78) #[Y, Y, Y, Y, Y, Y, Y, Y, Y, Y, Y, Y, Z, Z, Z, Z] rfl rfl HT_ ?_
                       refine puA (i := 12) (N := some 79) #[Y, Y, Y, Y, Y, Y, Y, Y, Y, Y, Y, Y, Y, Z, Z, Z] rfl rfl HT_ ?_
                       refine one_ (i := 13) (N := some 16) #[Y, Y, Y, Y, Y, Y, Y, Y, Y, Y, Y, Y, Y, Y, Z, Z] rfl rfl (one_of HT_.out (by kernel_rfl)) (by decide) (fun K hK => ?_)
                       refine box_step ?hg (N := 16) ?hd (cs := #[.int .i64 0, .int .i64 0, .int .i64 0]) (t := 39) ?hr ?_; (case hd => rfl); (case hg => rfl); (case hr => first | (go_simp; done) | (go_simp; rfl))
                       intro gb1089 hg w59 hbox hb
                       have HS0_ := (hb.cell (World.block_lt_of_cell? _ _ (hHeld.1))).trans (hHeld.1)
                       have HS1_ := (hb.cell (World.block_lt_of_cell? _ _ (hHeld.2.1))).trans (hHeld.2.1)
                       have HS2_ := (hb.cell (World.block_lt_of_cell? _ _ (hHeld.2.2.1))).trans (hHeld.2.2.1)
                       have HS3_ := (hb.cell (World.block_lt_of_cell? _ _ (hHeld.2.2.2.1))).trans (hHeld.2.2.2.1)
                       have HS4_ := (hb.cell (World.block_lt_of_cell? _ _ (hHeld.2.2.2.2.1))).trans (hHeld.2.2.2.2.1)
                       have HS5_ := (hb.cell (World.block_lt_of_cell? _ _ (hHeld.2.2.2.2.2.1))).trans (hHeld.2.2.2.2.2.1)
                       have HS6_ := (hb.cell (World.block_lt_of_cell? _ _ (hHeld.2.2.2.2.2.2))).trans (hHeld.2.2.2.2.2.2)
                       have BK1089 := Aside0.mk (hbox)
                       have GW1089 := sA hg
                       have GE1089 := sA hg
                       have NB1059_1089 := nA hg BK1059
                       have NB1089_1059 := nB hg BK1059
                       replace HO_11 := Aside0.mk (Kd.R_below (rA HO_11) hb)
                       replace HO_13 := Aside0.mk (Kd.R_below (Kd.R_elderB (rA HO_13) gb1089 (Nat.le_of_eq hg.symm)) hb)
                       replace BK1059 := kB BK1059 hb
                       replace HB := lB hb
                       clear hb hbox hg
                       refine hK.out _ _ ⟨HS0_, HS1_, HS2_, HS3_, HS4_, HS5_, HS6_⟩ (fun hHeld => ?_)
                       clear hK K
                       refine norm_ (a' := ?_) ?_ ?_
                       rotate_left
                       ·
                        show Act.put _ (some 16) _ = _
                        simp only [pA]
                        rfl
                       exact norm_ (by simp only [putAll, Act.put, List.setIfInBounds_toArray, List.set_cons_zero, List.set_cons_succ]) (hCont (gb1089) _ ⟨hHeld, (rA HO_11), (rA HO_13), (bkA BK1059), (bkA BK1089), GW1089.out, GE1089.out, NB1059_1089.out, NB1089_1059.out, blA⟩)
                      ·
                       skip
                       refine box_step ?hg (N := 16) ?hd (cs := #[.int .i64 0, .int .i64 0, .int .i64 0]) (t := 39) ?hr ?_; (case hd => rfl); (case hg => rfl); (case hr => first | (go_simp; done) | (go_simp; rfl))
                       intro gb1089 hg w58 hbox hb
                       have HS0_ := (hb.cell (World.block_lt_of_cell? _ _ (hHeld.1))).trans (hHeld.1)
                       have HS1_ := (hb.cell (World.block_lt_of_cell? _ _ (hHeld.2.1))).trans (hHeld.2.1)
                       have HS2_ := (hb.cell (World.block_lt_of_cell? _ _ (hHeld.2.2.1))).trans (hHeld.2.2.1)
                       have HS3_ := (hb.cell (World.block_lt_of_cell? _ _ (hHeld.2.2.2.1))).trans (hHeld.2.2.2.1)
                       have HS4_ := (hb.cell (World.block_lt_of_cell? _ _ (hHeld.2.2.2.2.1))).trans (hHeld.2.2.2.2.1)
                       have HS5_ := (hb.cell (World.block_lt_of_cell? _ _ (hHeld.2.2.2.2.2.1))).trans (hHeld.2.2.2.2.2.1)
                       have HS6_ := (hb.cell (World.block_lt_of_cell? _ _ (hHeld.2.2.2.2.2.2))).trans (hHeld.2.2.2.2.2.2)
                       have BK1089 := Aside0.mk (hbox)
                       have GW1089 := sA hg
                       have GE1089 := sA hg
                       have NB1059_1089 := nA hg BK1059
                       have NB1089_1059 := nB hg BK1059
                       replace HO_11 := Aside0.mk (Kd.R_below (rA HO_11) hb)
                       replace HO_13 := Aside0.mk (Kd.R_below (Kd.R_elderB (rA HO_13) gb1089 (Nat.le_of_eq hg.symm)) hb)
                       replace BK1059 := kB BK1059 hb
                       replace HB := lB hb
                       clear hb hbox hg
                       refine hK.out _ _ ⟨HS0_, HS1_, HS2_, HS3_, HS4_, HS5_, HS6_⟩ (fun hHeld => ?_)
                       clear hK K
                       refine norm_ (a' := ?_) ?_ ?_
                       rotate_left
                       ·
                        show Act.put _ (some 16) _ = _
                        simp only [pA]
                        rfl
                       refine one_ (i := 9) (N := some 77) #[Y, Y, Y, Y, Y, Y, Y, Y, Y, Y, Z, Z, Z, Y, Z, Z] rfl rfl (one_of HT_.out (by kernel_rfl)) (by decide) (fun K hK => ?_)
                       refine goes_ Try.func62 (by kernel_rfl) rfl #[.int .i64 a0, .agg #[.int .i64 ((rd_T26 x11_1 x15_3).f0.f0), .int .i64 ((rd_T26 x11_1 x15_3).f0.f1), .int .i64 ((rd_T26 x11_1 x15_3).f1.f0), .int .i64 ((rd_T26 x11_1 x15_3).f1.f1)], .agg #[.int .i64 ((rd_T39 x13_3 x14_2).f0), .int .i64 ((rd_T39 x13_3 x14_2).f1), .int .i64 ((rd_T39 x13_3 x14_2).f2)]] (by rfl) rfl rfl hA ?_
                       with_reducible refine (spec_l04Move.calls k3 a0 ((rd_T26 x11_1 x15_3).f0.f0) ((rd_T26 x11_1 x15_3).f0.f1) ((rd_T26 x11_1 x15_3).f1.f0) ((rd_T26 x11_1 x15_3).f1.f1) ((rd_T39 x13_3 x14_2).f0) ((rd_T39 x13_3 x14_2).f1) ((rd_T39 x13_3 x14_2).f2) t1085 t1086 t1087 true _ A48.out).mono ?_
                       rintro e w59 ⟨rfl, hb⟩
                       have HS0_ := (hb.cell (World.block_lt_of_cell? _ _ (hHeld.1))).trans (hHeld.1)
                       have HS1_ := (hb.cell (World.block_lt_of_cell? _ _ (hHeld.2.1))).trans (hHeld.2.1)
                       have HS2_ := (hb.cell (World.block_lt_of_cell? _ _ (hHeld.2.2.1))).trans (hHeld.2.2.1)
                       have HS3_ := (hb.cell (World.block_lt_of_cell? _ _ (hHeld.2.2.2.1))).trans (hHeld.2.2.2.1)
                       have HS4_ := (hb.cell (World.block_lt_of_cell? _ _ (hHeld.2.2.2.2.1))).trans (hHeld.2.2.2.2.1)
                       have HS5_ := (hb.cell (World.block_lt_of_cell? _ _ (hHeld.2.2.2.2.2.1))).trans (hHeld.2.2.2.2.2.1)
                       have HS6_ := (hb.cell (World.block_lt_of_cell? _ _ (hHeld.2.2.2.2.2.2))).trans (hHeld.2.2.2.2.2.2)
                       refine ⟨_, rfl, ?_⟩
                       replace HO_11 := Aside0.mk (Kd.R_below (rA HO_11) hb)
                       replace HO_13 := Aside0.mk (Kd.R_below (rA HO_13) hb)
                       replace BK1059 := kB BK1059 hb
                       replace BK1089 := kB BK1089 hb
                       replace HB := lB hb
                       (try clear hb)
                       (try clear hb2)
                       (try clear hk)
                       (try clear hi)
                       refine hK.out _ _ ⟨HS0_, HS1_, HS2_, HS3_, HS4_, HS5_, HS6_⟩ (fun hHeld => ?_)
                       clear hK K
                       refine norm_ (a' := ?_) ?_ ?_
                       rotate_left
                       ·
                        show Act.put _ (some 77) _ = _
                        simp only [pA]
                        rfl
                       refine puA (i := 10) (N := some 67) #[Y, Y, Y, Y, Y, Y, Y, Y, Y, Y, Y, Z, Z, Y, Z, Z] rfl rfl HT_ ?_
                       refine puA (i := 11) (N := some 78) #[Y, Y, Y, Y, Y, Y, Y, Y, Y, Y, Y, Y, Z, Y, Z, Z] rfl rfl HT_ ?_
                       refine puA (i := 12) (N := some 79) #[Y, Y, Y, Y, Y, Y, Y, Y, Y, Y, Y, Y, Y, Y, Z, Z] rfl rfl HT_ ?_
                       exact norm_ (by simp only [putAll, Act.put, List.setIfInBounds_toArray, List.set_cons_zero, List.set_cons_succ]) (hCont (gb1089) _ ⟨hHeld, (rA HO_11), (rA HO_13), (bkA BK1059), (bkA BK1089), GW1089.out, GE1089.out, NB1059_1089.out, NB1089_1059.out, blA⟩)
                     rintro gb1089 w60 ⟨hS_, h0_, h1_, h2_, h3_, h4_, h5_, h6_, h7_, h8_⟩
                     have BK1089 := Aside0.mk h3_
                     have GW1089 := Aside0.mk h4_
                     have GE1089 := Aside0.mk h5_
                     have NB1059_1089 := Aside0.mk h6_
                     have NB1089_1059 := Aside0.mk h7_
                     replace HO_11 := Aside0.mk h0_
                     replace HO_13 := Aside0.mk h1_
                     replace BK1059 := Aside0.mk h2_
                     replace HB := Aside0.mk h8_
                     clear h0_ h1_ h2_ h3_ h4_ h5_ h6_ h7_ h8_
                     have hHeld : w60.cell? (ad1083.add ((x15_3).toNat * 4)) = some (.int .i64 ((rd_T26 x11_1 x15_3).f0.f0)) ∧ w60.cell? ⟨(ad1083.add ((x15_3).toNat * 4)).block, (ad1083.add ((x15_3).toNat * 4)).off + 1, none⟩ = some (.int .i64 ((rd_T26 x11_1 x15_3).f0.f1)) ∧ w60.cell? ⟨(ad1083.add ((x15_3).toNat * 4)).block, (ad1083.add ((x15_3).toNat * 4)).off + 2, none⟩ = some (.int .i64 ((rd_T26 x11_1 x15_3).f1.f0)) ∧ w60.cell? ⟨(ad1083.add ((x15_3).toNat * 4)).block, (ad1083.add ((x15_3).toNat * 4)).off + 3, none⟩ = some (.int .i64 ((rd_T26 x11_1 x15_3).f1.f1)) ∧ w60.cell? (ad1084.add ((x14_2).toNat * 3)) = some (.int .i64 ((rd_T39 x13_3 x14_2).f0)) ∧ w60.cell? ⟨(ad1084.add ((x14_2).toNat * 3)).block, (ad1084.add ((x14_2).toNat * 3)).off + 1, none⟩ = some (.int .i64 ((rd_T39 x13_3 x14_2).f1)) ∧ w60.cell? ⟨(ad1084.add ((x14_2).toNat * 3)).block, (ad1084.add ((x14_2).toNat * 3)).off + 2, none⟩ = some (.int .i64 ((rd_T39 x13_3 x14_2).f2)) := hS_
                     refine norm_ (a' := ?_) ?_ ?_
                     rotate_left
                     ·
                      simp only [putAll, Act.put, List.setIfInBounds_toArray, List.set_cons_zero, List.set_cons_succ]
                      rfl
                     refine one_ (i := 14) (N := none) #[Y, Y, Y, Y, Y, Y, Y, Y, Y, Y, Y, Y, Y, Y, Y, Z] rfl rfl (one_of HT_.out (by kernel_rfl)) (by decide) (fun K hK => ?_)
                     have hs61 : w60.cell? ⟨gb1089, 0, none⟩ = some (.int .i64 0) := cA BK1089 0
                     have hfs61 := blk_frozen BK1089.out 0
                     have hns61_0 := NB1059_1089.out
                     have hms61_0 := NB1089_1059.out
                     have hs62 : w60.cell? ⟨gb1089, 1, none⟩ = some (.int .i64 0) := cA BK1089 1
                     have hfs62 := blk_frozen BK1089.out 1
                     have hns62_0 := NB1059_1089.out
                     have hms62_0 := NB1089_1059.out
                     have hs63 : w60.cell? ⟨gb1089, 2, none⟩ = some (.int .i64 0) := cA BK1089 2
                     have hfs63 := blk_frozen BK1089.out 2
                     have hns63_0 := NB1059_1089.out
                     have hms63_0 := NB1089_1059.out
                     refine skip_ (w1 := ?_) (by rfl) rfl ?_ ?_
                     rotate_left
                     ·
                      go_simp
                      rfl
                     refine hK.out _ _ ⟨((cell_far (p := ⟨gb1089, _, none⟩) (fB (Kd.own_blk (Kd.R_ne HO_11.out BK1089.out (by decide)))) _).trans (((cell_far (p := ⟨gb1089, _, none⟩) (fB (Kd.own_blk (Kd.R_ne HO_11.out BK1089.out (by decide)))) _).trans (((cell_far (p := ⟨gb1089, _, none⟩) (fB (Kd.own_blk (Kd.R_ne HO_11.out BK1089.out (by decide)))) _).trans (hHeld.1)))))), ((cell_far (p := ⟨gb1089, _, none⟩) (fB (Kd.own_blk (Kd.R_ne HO_11.out BK1089.out (by decide)))) _).trans (((cell_far (p := ⟨gb1089, _, none⟩) (fB (Kd.own_blk (Kd.R_ne HO_11.out BK1089.out (by decide)))) _).trans (((cell_far (p := ⟨gb1089, _, none⟩) (fB (Kd.own_blk (Kd.R_ne HO_11.out BK1089.out (by decide)))) _).trans (hHeld.2.1)))))), ((cell_far (p := ⟨gb1089, _, none⟩) (fB (Kd.own_blk (Kd.R_ne HO_11.out BK1089.out (by decide)))) _).trans (((cell_far (p := ⟨gb1089, _, none⟩) (fB (Kd.own_blk (Kd.R_ne HO_11.out BK1089.out (by decide)))) _).trans (((cell_far (p := ⟨gb1089, _, none⟩) (fB (Kd.own_blk (Kd.R_ne HO_11.out BK1089.out (by decide)))) _).trans (hHeld.2.2.1)))))), ((cell_far (p := ⟨gb1089, _, none⟩) (fB (Kd.own_blk (Kd.R_ne HO_11.out BK1089.out (by decide)))) _).trans (((cell_far (p := ⟨gb1089, _, none⟩) (fB (Kd.own_blk (Kd.R_ne HO_11.out BK1089.out (by decide)))) _).trans (((cell_far (p := ⟨gb1089, _, none⟩) (fB (Kd.own_blk (Kd.R_ne HO_11.out BK1089.out (by decide)))) _).trans (hHeld.2.2.2.1)))))), ((cell_far (p := ⟨gb1089, _, none⟩) (fB (Kd.own_blk (Kd.R_away HO_13.out (fun _ hk => hk.2)))) _).trans (((cell_far (p := ⟨gb1089, _, none⟩) (fB (Kd.own_blk (Kd.R_away HO_13.out (fun _ hk => hk.2)))) _).trans (((cell_far (p := ⟨gb1089, _, none⟩) (fB (Kd.own_blk (Kd.R_away HO_13.out (fun _ hk => hk.2)))) _).trans (hHeld.2.2.2.2.1)))))), ((cell_far (p := ⟨gb1089, _, none⟩) (fB (Kd.own_blk (Kd.R_away HO_13.out (fun _ hk => hk.2)))) _).trans (((cell_far (p := ⟨gb1089, _, none⟩) (fB (Kd.own_blk (Kd.R_away HO_13.out (fun _ hk => hk.2)))) _).trans (((cell_far (p := ⟨gb1089, _, none⟩) (fB (Kd.own_blk (Kd.R_away HO_13.out (fun _ hk => hk.2)))) _).trans (hHeld.2.2.2.2.2.1)))))), ((cell_far (p := ⟨gb1089, _, none⟩) (fB (Kd.own_blk (Kd.R_away HO_13.out (fun _ hk => hk.2)))) _).trans (((cell_far (p := ⟨gb1089, _, none⟩) (fB (Kd.own_blk (Kd.R_away HO_13.out (fun _ hk => hk.2)))) _).trans (((cell_far (p := ⟨gb1089, _, none⟩) (fB (Kd.own_blk (Kd.R_away HO_13.out (fun _ hk => hk.2)))) _).trans (hHeld.2.2.2.2.2.2))))))⟩ (fun hHeld => ?_)
                     clear hK K
                     refine puA (i := 15) (N := some 17) #[Y, Y, Y, Y, Y, Y, Y, Y, Y, Y, Y, Y, Y, Y, Y, Y] rfl rfl HT_ ?_
                     refine done_ (done_of HT_.out (by kernel_rfl)) ?_
                     have hnb64 := NB1089_1059.out
                     have hnc64 := NB1059_1089.out
                     obtain ⟨hcz65_0, hcz65_1, hcz65_2, hfz65_0, hfz65_1, hfz65_2⟩ := cz3 BK1089
                     try go_wp2_with (first | (go_at_call 102; (with_reducible refine (spec_l02Distance.calls k3 a0 0 0 0 t1085 t1086 t1087 t1090 _ A50.out).mono ?_); rintro e w66 ⟨rfl, hb⟩; have n0_ := Aside0.mk (Kd.R_below (by (with_reducible repeat (first | apply Kd.R_alloc | apply Kd.R_drewN | apply Kd.R_drew)); exact (Kd.R_mono (Kd.R_far (p := ⟨gb1089, 2, none⟩) (Kd.R_far (p := ⟨gb1089, 1, none⟩) (Kd.R_far (p := ⟨gb1089, 0, none⟩) (Kd.R_types HO_11.out BK1089.out (by decide)) (fun _ hk => hk.2) (.int .i64 t1085)) (fun _ hk => hk.2) (.int .i64 t1086)) (fun _ hk => hk.2) (.int .i64 t1087)) (fun _ h_ => h_.1))) hb); have n1_ := Aside0.mk (Kd.R_below (by (with_reducible repeat (first | apply Kd.R_alloc | apply Kd.R_drewN | apply Kd.R_drew)); exact (Kd.R_mono (Kd.R_far (p := ⟨gb1089, 2, none⟩) (Kd.R_far (p := ⟨gb1089, 1, none⟩) (Kd.R_far (p := ⟨gb1089, 0, none⟩) (Kd.R_mono HO_13.out (fun k_ hk => (⟨hk, hk.2⟩ : _ ∧ k_ ≠ gb1089))) (fun _ hk => hk.2) (.int .i64 t1085)) (fun _ hk => hk.2) (.int .i64 t1086)) (fun _ hk => hk.2) (.int .i64 t1087)) (fun _ h_ => h_.1))) hb); have n2_ := Aside0.mk (blk_below (g := gb1059) (o := .cells #[.int .i64 a2_0, .int .i64 a2_1, .int .i64 a2_2] 39 (0, 0)) (bkF BK1059) hb); have n3_ := Aside0.mk (blk_below (g := gb1089) (o := .cells #[.int .i64 t1085, .int .i64 t1086, .int .i64 t1087] 39 (0, 0)) (by refine dr ?_; refine blk_put (cs := #[.int .i64 t1085, .int .i64 t1086, .int .i64 0]) ?_ 2 _ rfl; refine dr ?_; refine blk_put (cs := #[.int .i64 t1085, .int .i64 0, .int .i64 0]) ?_ 1 _ rfl; refine dr ?_; refine blk_put (cs := #[.int .i64 0, .int .i64 0, .int .i64 0]) ?_ 0 _ rfl; exact bkA BK1089) hb); have n4_ := lB hb; clear HO_11; clear HO_13; clear BK1059; clear BK1089; clear HB; have HO_11 := n0_; have HO_13 := n1_; have BK1059 := n2_; have BK1089 := n3_; have HB := n4_; clear n0_ n1_ n2_ n3_ n4_; (try clear hb); (try clear hb2); (try clear hk); (try clear hi); obtain ⟨hcz67_0, hcz67_1, hcz67_2, hfz67_0, hfz67_1, hfz67_2⟩ := cz3 BK1089) | (go_at_call 67; (with_reducible refine (spec_l06Find.calls k3 _ _ x13_3 t1085 t1086 t1087 t1091 _ ?side1 ?side2 A52.out).mono ?_); (case side1 => repeat (first | exact (Kd.R_reads' HO_13.out).2.2 | (with_reducible refine Kd.C_alloc ?_ _) | (with_reducible refine Kd.C_drewN ?_ _) | (with_reducible refine Kd.C_drew ?_))); (case side2 => exact (Kd.R_reads' HO_13.out).2.1); rintro e w68 ⟨rfl, hb⟩; have n0_ := Aside0.mk (Kd.R_below (rA HO_11) hb); have n1_ := Aside0.mk (Kd.R_below (rA HO_13) hb); have n2_ := kB BK1059 hb; have n3_ := kB BK1089 hb; have n4_ := lB hb; clear HO_11; clear HO_13; clear BK1059; clear BK1089; clear HB; have HO_11 := n0_; have HO_13 := n1_; have BK1059 := n2_; have BK1089 := n3_; have HB := n4_; clear n0_ n1_ n2_ n3_ n4_; (try clear hb); (try clear hb2); (try clear hk); (try clear hi); obtain ⟨hcz69_0, hcz69_1, hcz69_2, hfz69_0, hfz69_1, hfz69_2⟩ := cz3 BK1089) | ((with_reducible refine gate_builtin (b := .append) (xs := #[.tmp 95, .tmp 97]) rfl ?_); at_builtin; refine Kd.R_append k39 (w0 := w) w.heap.size rfl (.tmp 95) (.tmp 97) 36 39 (.agg #[(.int .i64 0), (.int .i64 0), (.int .i64 0)]) 24 rfl Try.underlying36 info39 rfl (by decide) (by omega) (.slice (some ad1084) x13_3.length co57) x13_3 (⟨t1085, t1086, t1087⟩ : S39) [.int .i64 t1085, .int .i64 t1086, .int .i64 t1087] (fun k_ => k_ ≠ gb1059 ∧ k_ ≠ gb1089) (fun _ => False) rfl rfl ?aP (fun _ hk => hk.elim) ?aF ?aO ?aB ?aS ?aL ?_; (case aP => exact k39_mkM _ _ _ (⟨t1085, t1086, t1087⟩ : S39)); (case aB => exact blA); (case aF => exact (fun k_ hk => ⟨Kd.freshB (bkA BK1059) k_ hk, Kd.freshB (bkA BK1089) k_ hk⟩)); (case aO => exact (rA HO_13)); (case aS => exact (below_size blA)); (case aL => have := LMc54.out; omega); intro v1093 w70 ho hb hg hat; rw [← Ny1092.out] at ho; have n0_ := Aside0.mk (Kd.R_over' (rA HO_11) (Kd.R_typed (rA HO_13)) (by decide) hg); have n1_ := Aside0.mk (blk_grown (bkA BK1059) hg (Kd.R_away HO_13.out (fun _ hk => hk.1))); have n2_ := Aside0.mk (blk_grown (bkA BK1089) hg (Kd.R_away HO_13.out (fun _ hk => hk.2))); have n3_ := Aside0.mk (hb); have n4_ := Aside0.mk (ho); clear HO_11; clear BK1059; clear BK1089; clear HB; clear HO_13; have HO_11 := n0_; have BK1059 := n1_; have BK1089 := n2_; have HB := n3_; have HO1094 := n4_; clear n0_ n1_ n2_ n3_ n4_; clear ho hb hg hat))
                     go_roundg k3
                     case measure => have := HK1.out; have := HK2.out; have := HK3.out; omega
                     case rel => exact ⟨(y1092), (wrap64 (x15_3 + 1)), hB, H', ⟨by have := HK1.out; have := HK2.out; have := HK3.out; omega⟩, ⟨rA HO_11⟩, ⟨by (with_reducible repeat (first | apply Kd.R_alloc | apply Kd.R_drewN | apply Kd.R_drew)); exact Kd.R_mono HO1094.out (fun _ hk => hk.1)⟩, ⟨bkA BK1059⟩, ⟨blA⟩⟩
                    ·
                     rw [if_neg c54] at H
                     exact absurd H (by simp)
                   ·
                    rw [if_neg c53] at H
                    have c53b0 := decide_eq_false c53
                    clear c53
                    have H' := Aside0.mk H
                    clear H
                    obtain ⟨Ao71, co71, eo71⟩ := Kd.R_slice HO_11.out
                    subst eo71
                    try go_wp2
                    have n0_ := Aside0.mk (Kd.R_drew HO_11.out)
                    have n1_ := Aside0.mk (Kd.R_drew HO_13.out)
                    have n2_ := Aside0.mk (blk_drew BK1059.out)
                    have n3_ := Aside0.mk (below_drew1 HB.out)
                    clear HO_11
                    clear HO_13
                    clear BK1059
                    clear HB
                    have HO_11 := n0_
                    have HO_13 := n1_
                    have BK1059 := n2_
                    have HB := n3_
                    clear n0_ n1_ n2_ n3_
                    have p1083 : 0 ≤ (x15_3 : Int) := dA
                    have q1083 : x15_3 < (x11_1.length : Int) := dA
                    obtain ⟨ad1083, e1083, hx1083_0, hx1083_1, hx1083_2, hx1083_3⟩ := at_T26 (Kd.R_reads' HO_11.out).2.2 x15_3 p1083 q1083
                    cases e1083
                    replace p1083 := eq_true p1083
                    replace q1083 := eq_true q1083
                    obtain ⟨Ao73, co73, eo73⟩ := Kd.R_slice HO_13.out
                    (first | subst eo73 | (injection eo73 with f1_ f2_ f3_; have f4_ := f1_.symm; have f5_ := f3_.symm; clear f1_ f2_ f3_; subst f4_; subst f5_))
                    have p1084 : 0 ≤ (x14_2 : Int) := dA
                    have q1084 : x14_2 < (x13_3.length : Int) := dA
                    obtain ⟨ad1084, e1084, hx1084_0, hx1084_1, hx1084_2⟩ := at_T39 (Kd.R_reads' HO_13.out).2.2 x14_2 p1084 q1084
                    cases e1084
                    replace p1084 := eq_true p1084
                    replace q1084 := eq_true q1084
                    refine start_ (n := 16) (S := fun w' => w'.cell? (ad1083.add ((x15_3).toNat * 4)) = some (.int .i64 ((rd_T26 x11_1 x15_3).f0.f0)) ∧ w'.cell? ⟨(ad1083.add ((x15_3).toNat * 4)).block, (ad1083.add ((x15_3).toNat * 4)).off + 1, none⟩ = some (.int .i64 ((rd_T26 x11_1 x15_3).f0.f1)) ∧ w'.cell? ⟨(ad1083.add ((x15_3).toNat * 4)).block, (ad1083.add ((x15_3).toNat * 4)).off + 2, none⟩ = some (.int .i64 ((rd_T26 x11_1 x15_3).f1.f0)) ∧ w'.cell? ⟨(ad1083.add ((x15_3).toNat * 4)).block, (ad1083.add ((x15_3).toNat * 4)).off + 3, none⟩ = some (.int .i64 ((rd_T26 x11_1 x15_3).f1.f1)) ∧ w'.cell? (ad1084.add ((x14_2).toNat * 3)) = some (.int .i64 ((rd_T39 x13_3 x14_2).f0)) ∧ w'.cell? ⟨(ad1084.add ((x14_2).toNat * 3)).block, (ad1084.add ((x14_2).toNat * 3)).off + 1, none⟩ = some (.int .i64 ((rd_T39 x13_3 x14_2).f1)) ∧ w'.cell? ⟨(ad1084.add ((x14_2).toNat * 3)).block, (ad1084.add ((x14_2).toNat * 3)).off + 2, none⟩ = some (.int .i64 ((rd_T39 x13_3 x14_2).f2))) (ds := []) #[Z, Z, Z, Z, Z, Z, Z, Z, Z, Z, Z, Z, Z, Z, Z, Z] (by kernel_rfl) rfl rfl ⟨hx1083_0, hx1083_1, hx1083_2, hx1083_3, hx1084_0, hx1084_1, hx1084_2⟩ (fun hHeld => ?_); refine with_tabW spec_OrbitIn.tab20 spec_OrbitIn.bits20 (fun HT_ HW_ => ?_)
                    generalize wr.drew = w72 at HO_11 HO_13 BK1059 HB hx1083_0 hx1083_1 hx1083_2 hx1083_3 hx1084_0 hx1084_1 hx1084_2 hHeld ⊢
                    refine puA (i := 0) (N := some 68) #[Y, Z, Z, Z, Z, Z, Z, Z, Z, Z, Z, Z, Z, Z, Z, Z] rfl rfl HT_ ?_
                    refine puA (i := 1) (N := some 69) #[Y, Y, Z, Z, Z, Z, Z, Z, Z, Z, Z, Z, Z, Z, Z, Z] rfl rfl HT_ ?_
                    refine puA (i := 2) (N := some 70) #[Y, Y, Y, Z, Z, Z, Z, Z, Z, Z, Z, Z, Z, Z, Z, Z] rfl rfl HT_ ?_
                    refine puA (i := 3) (N := some 71) #[Y, Y, Y, Y, Z, Z, Z, Z, Z, Z, Z, Z, Z, Z, Z, Z] rfl rfl HT_ ?_
                    refine puA (i := 5) (N := some 73) #[Y, Y, Y, Y, Z, Y, Z, Z, Z, Z, Z, Z, Z, Z, Z, Z] rfl rfl HT_ ?_
                    refine puA (i := 6) (N := some 74) #[Y, Y, Y, Y, Z, Y, Y, Z, Z, Z, Z, Z, Z, Z, Z, Z] rfl rfl HT_ ?_
                    refine puA (i := 7) (N := some 75) #[Y, Y, Y, Y, Z, Y, Y, Y, Z, Z, Z, Z, Z, Z, Z, Z] rfl rfl HT_ ?_
                    refine take_ (i := 4) (N := some 72) (v := ?_) (a' := ?_) #[Y, Y, Y, Y, Y, Y, Y, Y, Z, Z, Z, Z, Z, Z, Z, Z] rfl rfl (take_ofW HT_.out HW_.out (by kernel_rfl)) (fun _ _ _ h => h) (Or.inl ⟨by rfl, ?_⟩) hHeld ?_ ?_
                    rotate_left
                    ·
                     rintro w' ⟨s0, s1, s2, s3, s4, s5, s6⟩
                     go_simp
                     with_reducible rfl
                    rotate_left
                    ·
                     simp only [pA]
                     rfl
                    refine take_ (i := 8) (N := some 76) (v := ?_) (a' := ?_) #[Y, Y, Y, Y, Y, Y, Y, Y, Y, Z, Z, Z, Z, Z, Z, Z] rfl rfl (take_ofW HT_.out HW_.out (by kernel_rfl)) (fun _ _ _ h => h) (Or.inl ⟨by rfl, ?_⟩) hHeld ?_ ?_
                    rotate_left
                    ·
                     rintro w' ⟨s0, s1, s2, s3, s4, s5, s6⟩
                     go_simp
                     with_reducible rfl
                    rotate_left
                    ·
                     simp only [pA]
                     rfl
                    refine join_ (σ := Nat) 2 #[Y, Y, Y, Y, Y, Y, Y, Y, Y, Y, Y, Y, Y, Y, Z, Z] (fun s_ => [(77, .tuple #[.agg #[.int .i64 t1085, .int .i64 t1086, .int .i64 t1087], .bool true]), (16, .pointer (some ⟨s_, 0, none⟩)), (67, .tuple #[.agg #[.int .i64 t1085, .int .i64 t1086, .int .i64 t1087], .bool true]), (78, .agg #[.int .i64 t1085, .int .i64 t1086, .int .i64 t1087]), (79, .bool true)]) (fun s_ w' => (w'.cell? (ad1083.add ((x15_3).toNat * 4)) = some (.int .i64 ((rd_T26 x11_1 x15_3).f0.f0)) ∧ w'.cell? ⟨(ad1083.add ((x15_3).toNat * 4)).block, (ad1083.add ((x15_3).toNat * 4)).off + 1, none⟩ = some (.int .i64 ((rd_T26 x11_1 x15_3).f0.f1)) ∧ w'.cell? ⟨(ad1083.add ((x15_3).toNat * 4)).block, (ad1083.add ((x15_3).toNat * 4)).off + 2, none⟩ = some (.int .i64 ((rd_T26 x11_1 x15_3).f1.f0)) ∧ w'.cell? ⟨(ad1083.add ((x15_3).toNat * 4)).block, (ad1083.add ((x15_3).toNat * 4)).off + 3, none⟩ = some (.int .i64 ((rd_T26 x11_1 x15_3).f1.f1)) ∧ w'.cell? (ad1084.add ((x14_2).toNat * 3)) = some (.int .i64 ((rd_T39 x13_3 x14_2).f0)) ∧ w'.cell? ⟨(ad1084.add ((x14_2).toNat * 3)).block, (ad1084.add ((x14_2).toNat * 3)).off + 1, none⟩ = some (.int .i64 ((rd_T39 x13_3 x14_2).f1)) ∧ w'.cell? ⟨(ad1084.add ((x14_2).toNat * 3)).block, (ad1084.add ((x14_2).toNat * 3)).off + 2, none⟩ = some (.int .i64 ((rd_T39 x13_3 x14_2).f2))) ∧ (Kd.R k26 26 w' w.heap.size (fun _ => True) (.slice (some ad1083) x11_1.length co71) x11_1) ∧ (Kd.R k39 39 w' w.heap.size (fun k_ => k_ ≠ gb1059 ∧ k_ ≠ s_) (.slice (some ad1084) x13_3.length co73) x13_3) ∧ (w'.heap[gb1059]? = some (.cells #[.int .i64 a2_0, .int .i64 a2_1, .int .i64 a2_2] 39 (0, 0))) ∧ (w'.heap[s_]? = some (.cells #[.int .i64 0, .int .i64 0, .int .i64 0] 39 (0, 0))) ∧ (w.heap.size ≤ s_) ∧ (w.heap.size ≤ s_) ∧ (gb1059 ≠ s_) ∧ (s_ ≠ gb1059) ∧ (Below w.heap.size w w')) ?_ ?_
                    rotate_left
                    ·
                     intro hCont
                     refine two_ (i := 9) (j := 13) (Ni := some 77) (Nj := some 16) #[Y, Y, Y, Y, Y, Y, Y, Y, Y, Y, Z, Z, Z, Z, Z, Z] #[Y, Y, Y, Y, Y, Y, Y, Y, Y, Z, Z, Z, Z, Y, Z, Z] rfl rfl rfl rfl (two_of HT_.out (by kernel_rfl)) (by decide) (by decide) (fun K hK => ?_) (fun K hK => ?_)
                     ·
                      skip
                      refine goes_ Try.func62 (by kernel_rfl) rfl #[.int .i64 a0, .agg #[.int .i64 ((rd_T26 x11_1 x15_3).f0.f0), .int .i64 ((rd_T26 x11_1 x15_3).f0.f1), .int .i64 ((rd_T26 x11_1 x15_3).f1.f0), .int .i64 ((rd_T26 x11_1 x15_3).f1.f1)], .agg #[.int .i64 ((rd_T39 x13_3 x14_2).f0), .int .i64 ((rd_T39 x13_3 x14_2).f1), .int .i64 ((rd_T39 x13_3 x14_2).f2)]] (by rfl) rfl rfl hA ?_
                      with_reducible refine (spec_l04Move.calls k3 a0 ((rd_T26 x11_1 x15_3).f0.f0) ((rd_T26 x11_1 x15_3).f0.f1) ((rd_T26 x11_1 x15_3).f1.f0) ((rd_T26 x11_1 x15_3).f1.f1) ((rd_T39 x13_3 x14_2).f0) ((rd_T39 x13_3 x14_2).f1) ((rd_T39 x13_3 x14_2).f2) t1085 t1086 t1087 true _ A48.out).mono ?_
                      rintro e w74 ⟨rfl, hb⟩
                      have HS0_ := (hb.cell (World.block_lt_of_cell? _ _ (hHeld.1))).trans (hHeld.1)
                      have HS1_ := (hb.cell (World.block_lt_of_cell? _ _ (hHeld.2.1))).trans (hHeld.2.1)
                      have HS2_ := (hb.cell (World.block_lt_of_cell? _ _ (hHeld.2.2.1))).trans (hHeld.2.2.1)
                      have HS3_ := (hb.cell (World.block_lt_of_cell? _ _ (hHeld.2.2.2.1))).trans (hHeld.2.2.2.1)
                      have HS4_ := (hb.cell (World.block_lt_of_cell? _ _ (hHeld.2.2.2.2.1))).trans (hHeld.2.2.2.2.1)
                      have HS5_ := (hb.cell (World.block_lt_of_cell? _ _ (hHeld.2.2.2.2.2.1))).trans (hHeld.2.2.2.2.2.1)
                      have HS6_ := (hb.cell (World.block_lt_of_cell? _ _ (hHeld.2.2.2.2.2.2))).trans (hHeld.2.2.2.2.2.2)
                      refine ⟨_, rfl, ?_⟩
                      replace HO_11 := Aside0.mk (Kd.R_below (rA HO_11) hb)
                      replace HO_13 := Aside0.mk (Kd.R_below (rA HO_13) hb)
                      replace BK1059 := kB BK1059 hb
                      replace HB := lB hb
                      (try clear hb)
                      (try clear hb2)
                      (try clear hk)
                      (try clear hi)
                      refine hK.out _ _ ⟨HS0_, HS1_, HS2_, HS3_, HS4_, HS5_, HS6_⟩ (fun hHeld => ?_)
                      clear hK K
                      refine norm_ (a' := ?_) ?_ ?_
                      rotate_left
                      ·
                       show Act.put _ (some 77) _ = _
                       simp only [pA]
                       rfl
                      refine puA (i := 10) (N := some 67) #[Y, Y, Y, Y, Y, Y, Y, Y, Y, Y, Y, Z, Z, Z, Z, Z] rfl rfl HT_ ?_
                      refine puA (i := 11) (N := some 78) #[Y, Y, Y, Y, Y, Y, Y, Y, Y, Y, Y, Y, Z, Z, Z, Z] rfl rfl HT_ ?_
                      refine puA (i := 12) (N := some 79) #[Y, Y, Y, Y, Y, Y, Y, Y, Y, Y, Y, Y, Y, Z, Z, Z] rfl rfl HT_ ?_
                      refine one_ (i := 13) (N := some 16) #[Y, Y, Y, Y, Y, Y, Y, Y, Y, Y, Y, Y, Y, Y, Z, Z] rfl rfl (one_of HT_.out (by kernel_rfl)) (by decide) (fun K hK => ?_)
                      refine box_step ?hg (N := 16) ?hd (cs := #[.int .i64 0, .int .i64 0, .int .i64 0]) (t := 39) ?hr ?_; (case hd => rfl); (case hg => rfl); (case hr => first | (go_simp; done) | (go_simp; rfl))
                      intro gb1089 hg w75 hbox hb
                      have HS0_ := (hb.cell (World.block_lt_of_cell? _ _ (hHeld.1))).trans (hHeld.1)
                      have HS1_ := (hb.cell (World.block_lt_of_cell? _ _ (hHeld.2.1))).trans (hHeld.2.1)
                      have HS2_ := (hb.cell (World.block_lt_of_cell? _ _ (hHeld.2.2.1))).trans (hHeld.2.2.1)
                      have HS3_ := (hb.cell (World.block_lt_of_cell? _ _ (hHeld.2.2.2.1))).trans (hHeld.2.2.2.1)
                      have HS4_ := (hb.cell (World.block_lt_of_cell? _ _ (hHeld.2.2.2.2.1))).trans (hHeld.2.2.2.2.1)
                      have HS5_ := (hb.cell (World.block_lt_of_cell? _ _ (hHeld.2.2.2.2.2.1))).trans (hHeld.2.2.2.2.2.1)
                      have HS6_ := (hb.cell (World.block_lt_of_cell? _ _ (hHeld.2.2.2.2.2.2))).trans (hHeld.2.2.2.2.2.2)
                      have BK1089 := Aside0.mk (hbox)
                      have GW1089 := sA hg
                      have GE1089 := sA hg
                      have NB1059_1089 := nA hg BK1059
                      have NB1089_1059 := nB hg BK1059
                      replace HO_11 := Aside0.mk (Kd.R_below (rA HO_11) hb)
                      replace HO_13 := Aside0.mk (Kd.R_below (Kd.R_elderB (rA HO_13) gb1089 (Nat.le_of_eq hg.symm)) hb)
                      replace BK1059 := kB BK1059 hb
                      replace HB := lB hb
                      clear hb hbox hg
                      refine hK.out _ _ ⟨HS0_, HS1_, HS2_, HS3_, HS4_, HS5_, HS6_⟩ (fun hHeld => ?_)
                      clear hK K
                      refine norm_ (a' := ?_) ?_ ?_
                      rotate_left
                      ·
                       show Act.put _ (some 16) _ = _
                       simp only [pA]
                       rfl
                      exact norm_ (by simp only [putAll, Act.put, List.setIfInBounds_toArray, List.set_cons_zero, List.set_cons_succ]) (hCont (gb1089) _ ⟨hHeld, (rA HO_11), (rA HO_13), (bkA BK1059), (bkA BK1089), GW1089.out, GE1089.out, NB1059_1089.out, NB1089_1059.out, blA⟩)
                     ·
                      skip
                      refine box_step ?hg (N := 16) ?hd (cs := #[.int .i64 0, .int .i64 0, .int .i64 0]) (t := 39) ?hr ?_; (case hd => rfl); (case hg => rfl); (case hr => first | (go_simp; done) | (go_simp; rfl))
                      intro gb1089 hg w74 hbox hb
                      have HS0_ := (hb.cell (World.block_lt_of_cell? _ _ (hHeld.1))).trans (hHeld.1)
                      have HS1_ := (hb.cell (World.block_lt_of_cell? _ _ (hHeld.2.1))).trans (hHeld.2.1)
                      have HS2_ := (hb.cell (World.block_lt_of_cell? _ _ (hHeld.2.2.1))).trans (hHeld.2.2.1)
                      have HS3_ := (hb.cell (World.block_lt_of_cell? _ _ (hHeld.2.2.2.1))).trans (hHeld.2.2.2.1)
                      have HS4_ := (hb.cell (World.block_lt_of_cell? _ _ (hHeld.2.2.2.2.1))).trans (hHeld.2.2.2.2.1)
                      have HS5_ := (hb.cell (World.block_lt_of_cell? _ _ (hHeld.2.2.2.2.2.1))).trans (hHeld.2.2.2.2.2.1)
                      have HS6_ := (hb.cell (World.block_lt_of_cell? _ _ (hHeld.2.2.2.2.2.2))).trans (hHeld.2.2.2.2.2.2)
                      have BK1089 := Aside0.mk (hbox)
                      have GW1089 := sA hg
                      have GE1089 := sA hg
                      have NB1059_1089 := nA hg BK1059
                      have NB1089_1059 := nB hg BK1059
                      replace HO_11 := Aside0.mk (Kd.R_below (rA HO_11) hb)
                      replace HO_13 := Aside0.mk (Kd.R_below (Kd.R_elderB (rA HO_13) gb1089 (Nat.le_of_eq hg.symm)) hb)
                      replace BK1059 := kB BK1059 hb
                      replace HB := lB hb
                      clear hb hbox hg
                      refine hK.out _ _ ⟨HS0_, HS1_, HS2_, HS3_, HS4_, HS5_, HS6_⟩ (fun hHeld => ?_)
                      clear hK K
                      refine norm_ (a' := ?_) ?_ ?_
                      rotate_left
                      ·
                       show Act.put _ (some 16) _ = _
                       simp only [pA]
                       rfl
                      refine one_ (i := 9) (N := some 77) #[Y, Y, Y, Y, Y, Y, Y, Y, Y, Y, Z, Z, Z, Y, Z, Z] rfl rfl (one_of HT_.out (by kernel_rfl)) (by decide) (fun K hK => ?_)
                      refine goes_ Try.func62 (by kernel_rfl) rfl #[.int .i64 a0, .agg #[.int .i64 ((rd_T26 x11_1 x15_3).f0.f0), .int .i64 ((rd_T26 x11_1 x15_3).f0.f1), .int .i64 ((rd_T26 x11_1 x15_3).f1.f0), .int .i64 ((rd_T26 x11_1 x15_3).f1.f1)], .agg #[.int .i64 ((rd_T39 x13_3 x14_2).f0), .int .i64 ((rd_T39 x13_3 x14_2).f1), .int .i64 ((rd_T39 x13_3 x14_2).f2)]] (by rfl) rfl rfl hA ?_
                      with_reducible refine (spec_l04Move.calls k3 a0 ((rd_T26 x11_1 x15_3).f0.f0) ((rd_T26 x11_1 x15_3).f0.f1) ((rd_T26 x11_1 x15_3).f1.f0) ((rd_T26 x11_1 x15_3).f1.f1) ((rd_T39 x13_3 x14_2).f0) ((rd_T39 x13_3 x14_2).f1) ((rd_T39 x13_3 x14_2).f2) t1085 t1086 t1087 true _ A48.out).mono ?_
                      rintro e w75 ⟨rfl, hb⟩
                      have HS0_ := (hb.cell (World.block_lt_of_cell? _ _ (hHeld.1))).trans (hHeld.1)
                      have HS1_ := (hb.cell (World.block_lt_of_cell? _ _ (hHeld.2.1))).trans (hHeld.2.1)
                      have HS2_ := (hb.cell (World.block_lt_of_cell? _ _ (hHeld.2.2.1))).trans (hHeld.2.2.1)
                      have HS3_ := (hb.cell (World.block_lt_of_cell? _ _ (hHeld.2.2.2.1))).trans (hHeld.2.2.2.1)
                      have HS4_ := (hb.cell (World.block_lt_of_cell? _ _ (hHeld.2.2.2.2.1))).trans (hHeld.2.2.2.2.1)
                      have HS5_ := (hb.cell (World.block_lt_of_cell? _ _ (hHeld.2.2.2.2.2.1))).trans (hHeld.2.2.2.2.2.1)
                      have HS6_ := (hb.cell (World.block_lt_of_cell? _ _ (hHeld.2.2.2.2.2.2))).trans (hHeld.2.2.2.2.2.2)
                      refine ⟨_, rfl, ?_⟩
                      replace HO_11 := Aside0.mk (Kd.R_below (rA HO_11) hb)
                      replace HO_13 := Aside0.mk (Kd.R_below (rA HO_13) hb)
                      replace BK1059 := kB BK1059 hb
                      replace BK1089 := kB BK1089 hb
                      replace HB := lB hb
                      (try clear hb)
                      (try clear hb2)
                      (try clear hk)
                      (try clear hi)
                      refine hK.out _ _ ⟨HS0_, HS1_, HS2_, HS3_, HS4_, HS5_, HS6_⟩ (fun hHeld => ?_)
                      clear hK K
                      refine norm_ (a' := ?_) ?_ ?_
                      rotate_left
                      ·
                       show Act.put _ (some 77) _ = _
                       simp only [pA]
                       rfl
                      refine puA (i := 10) (N := some 67) #[Y, Y, Y, Y, Y, Y, Y, Y, Y, Y, Y, Z, Z, Y, Z, Z] rfl rfl HT_ ?_
                      refine puA (i := 11) (N := some 78) #[Y, Y, Y, Y, Y, Y, Y, Y, Y, Y, Y, Y, Z, Y, Z, Z] rfl rfl HT_ ?_
                      refine puA (i := 12) (N := some 79) #[Y, Y, Y, Y, Y, Y, Y, Y, Y, Y, Y, Y, Y, Y, Z, Z] rfl rfl HT_ ?_
                      exact norm_ (by simp only [putAll, Act.put, List.setIfInBounds_toArray, List.set_cons_zero, List.set_cons_succ]) (hCont (gb1089) _ ⟨hHeld, (rA HO_11), (rA HO_13), (bkA BK1059), (bkA BK1089), GW1089.out, GE1089.out, NB1059_1089.out, NB1089_1059.out, blA⟩)
                    rintro gb1089 w76 ⟨hS_, h0_, h1_, h2_, h3_, h4_, h5_, h6_, h7_, h8_⟩
                    have BK1089 := Aside0.mk h3_
                    have GW1089 := Aside0.mk h4_
                    have GE1089 := Aside0.mk h5_
                    have NB1059_1089 := Aside0.mk h6_
                    have NB1089_1059 := Aside0.mk h7_
                    replace HO_11 := Aside0.mk h0_
                    replace HO_13 := Aside0.mk h1_
                    replace BK1059 := Aside0.mk h2_
                    replace HB := Aside0.mk h8_
                    clear h0_ h1_ h2_ h3_ h4_ h5_ h6_ h7_ h8_
                    have hHeld : w76.cell? (ad1083.add ((x15_3).toNat * 4)) = some (.int .i64 ((rd_T26 x11_1 x15_3).f0.f0)) ∧ w76.cell? ⟨(ad1083.add ((x15_3).toNat * 4)).block, (ad1083.add ((x15_3).toNat * 4)).off + 1, none⟩ = some (.int .i64 ((rd_T26 x11_1 x15_3).f0.f1)) ∧ w76.cell? ⟨(ad1083.add ((x15_3).toNat * 4)).block, (ad1083.add ((x15_3).toNat * 4)).off + 2, none⟩ = some (.int .i64 ((rd_T26 x11_1 x15_3).f1.f0)) ∧ w76.cell? ⟨(ad1083.add ((x15_3).toNat * 4)).block, (ad1083.add ((x15_3).toNat * 4)).off + 3, none⟩ = some (.int .i64 ((rd_T26 x11_1 x15_3).f1.f1)) ∧ w76.cell? (ad1084.add ((x14_2).toNat * 3)) = some (.int .i64 ((rd_T39 x13_3 x14_2).f0)) ∧ w76.cell? ⟨(ad1084.add ((x14_2).toNat * 3)).block, (ad1084.add ((x14_2).toNat * 3)).off + 1, none⟩ = some (.int .i64 ((rd_T39 x13_3 x14_2).f1)) ∧ w76.cell? ⟨(ad1084.add ((x14_2).toNat * 3)).block, (ad1084.add ((x14_2).toNat * 3)).off + 2, none⟩ = some (.int .i64 ((rd_T39 x13_3 x14_2).f2)) := hS_
                    refine norm_ (a' := ?_) ?_ ?_
                    rotate_left
                    ·
                     simp only [putAll, Act.put, List.setIfInBounds_toArray, List.set_cons_zero, List.set_cons_succ]
                     rfl
                    refine one_ (i := 14) (N := none) #[Y, Y, Y, Y, Y, Y, Y, Y, Y, Y, Y, Y, Y, Y, Y, Z] rfl rfl (one_of HT_.out (by kernel_rfl)) (by decide) (fun K hK => ?_)
                    have hs77 : w76.cell? ⟨gb1089, 0, none⟩ = some (.int .i64 0) := cA BK1089 0
                    have hfs77 := blk_frozen BK1089.out 0
                    have hns77_0 := NB1059_1089.out
                    have hms77_0 := NB1089_1059.out
                    have hs78 : w76.cell? ⟨gb1089, 1, none⟩ = some (.int .i64 0) := cA BK1089 1
                    have hfs78 := blk_frozen BK1089.out 1
                    have hns78_0 := NB1059_1089.out
                    have hms78_0 := NB1089_1059.out
                    have hs79 : w76.cell? ⟨gb1089, 2, none⟩ = some (.int .i64 0) := cA BK1089 2
                    have hfs79 := blk_frozen BK1089.out 2
                    have hns79_0 := NB1059_1089.out
                    have hms79_0 := NB1089_1059.out
                    refine skip_ (w1 := ?_) (by rfl) rfl ?_ ?_
                    rotate_left
                    ·
                     go_simp
                     rfl
                    refine hK.out _ _ ⟨((cell_far (p := ⟨gb1089, _, none⟩) (fB (Kd.own_blk (Kd.R_ne HO_11.out BK1089.out (by decide)))) _).trans (((cell_far (p := ⟨gb1089, _, none⟩) (fB (Kd.own_blk (Kd.R_ne HO_11.out BK1089.out (by decide)))) _).trans (((cell_far (p := ⟨gb1089, _, none⟩) (fB (Kd.own_blk (Kd.R_ne HO_11.out BK1089.out (by decide)))) _).trans (hHeld.1)))))), ((cell_far (p := ⟨gb1089, _, none⟩) (fB (Kd.own_blk (Kd.R_ne HO_11.out BK1089.out (by decide)))) _).trans (((cell_far (p := ⟨gb1089, _, none⟩) (fB (Kd.own_blk (Kd.R_ne HO_11.out BK1089.out (by decide)))) _).trans (((cell_far (p := ⟨gb1089, _, none⟩) (fB (Kd.own_blk (Kd.R_ne HO_11.out BK1089.out (by decide)))) _).trans (hHeld.2.1)))))), ((cell_far (p := ⟨gb1089, _, none⟩) (fB (Kd.own_blk (Kd.R_ne HO_11.out BK1089.out (by decide)))) _).trans (((cell_far (p := ⟨gb1089, _, none⟩) (fB (Kd.own_blk (Kd.R_ne HO_11.out BK1089.out (by decide)))) _).trans (((cell_far (p := ⟨gb1089, _, none⟩) (fB (Kd.own_blk (Kd.R_ne HO_11.out BK1089.out (by decide)))) _).trans (hHeld.2.2.1)))))), ((cell_far (p := ⟨gb1089, _, none⟩) (fB (Kd.own_blk (Kd.R_ne HO_11.out BK1089.out (by decide)))) _).trans (((cell_far (p := ⟨gb1089, _, none⟩) (fB (Kd.own_blk (Kd.R_ne HO_11.out BK1089.out (by decide)))) _).trans (((cell_far (p := ⟨gb1089, _, none⟩) (fB (Kd.own_blk (Kd.R_ne HO_11.out BK1089.out (by decide)))) _).trans (hHeld.2.2.2.1)))))), ((cell_far (p := ⟨gb1089, _, none⟩) (fB (Kd.own_blk (Kd.R_away HO_13.out (fun _ hk => hk.2)))) _).trans (((cell_far (p := ⟨gb1089, _, none⟩) (fB (Kd.own_blk (Kd.R_away HO_13.out (fun _ hk => hk.2)))) _).trans (((cell_far (p := ⟨gb1089, _, none⟩) (fB (Kd.own_blk (Kd.R_away HO_13.out (fun _ hk => hk.2)))) _).trans (hHeld.2.2.2.2.1)))))), ((cell_far (p := ⟨gb1089, _, none⟩) (fB (Kd.own_blk (Kd.R_away HO_13.out (fun _ hk => hk.2)))) _).trans (((cell_far (p := ⟨gb1089, _, none⟩) (fB (Kd.own_blk (Kd.R_away HO_13.out (fun _ hk => hk.2)))) _).trans (((cell_far (p := ⟨gb1089, _, none⟩) (fB (Kd.own_blk (Kd.R_away HO_13.out (fun _ hk => hk.2)))) _).trans (hHeld.2.2.2.2.2.1)))))), ((cell_far (p := ⟨gb1089, _, none⟩) (fB (Kd.own_blk (Kd.R_away HO_13.out (fun _ hk => hk.2)))) _).trans (((cell_far (p := ⟨gb1089, _, none⟩) (fB (Kd.own_blk (Kd.R_away HO_13.out (fun _ hk => hk.2)))) _).trans (((cell_far (p := ⟨gb1089, _, none⟩) (fB (Kd.own_blk (Kd.R_away HO_13.out (fun _ hk => hk.2)))) _).trans (hHeld.2.2.2.2.2.2))))))⟩ (fun hHeld => ?_)
                    clear hK K
                    refine puA (i := 15) (N := some 17) #[Y, Y, Y, Y, Y, Y, Y, Y, Y, Y, Y, Y, Y, Y, Y, Y] rfl rfl HT_ ?_
                    refine done_ (done_of HT_.out (by kernel_rfl)) ?_
                    have hnb80 := NB1089_1059.out
                    have hnc80 := NB1059_1089.out
                    obtain ⟨hcz81_0, hcz81_1, hcz81_2, hfz81_0, hfz81_1, hfz81_2⟩ := cz3 BK1089
                    try go_wp2_with (first | (go_at_call 102; (with_reducible refine (spec_l02Distance.calls k3 a0 0 0 0 t1085 t1086 t1087 t1090 _ A50.out).mono ?_); rintro e w82 ⟨rfl, hb⟩; have n0_ := Aside0.mk (Kd.R_below (by (with_reducible repeat (first | apply Kd.R_alloc | apply Kd.R_drewN | apply Kd.R_drew)); exact (Kd.R_mono (Kd.R_far (p := ⟨gb1089, 2, none⟩) (Kd.R_far (p := ⟨gb1089, 1, none⟩) (Kd.R_far (p := ⟨gb1089, 0, none⟩) (Kd.R_types HO_11.out BK1089.out (by decide)) (fun _ hk => hk.2) (.int .i64 t1085)) (fun _ hk => hk.2) (.int .i64 t1086)) (fun _ hk => hk.2) (.int .i64 t1087)) (fun _ h_ => h_.1))) hb); have n1_ := Aside0.mk (Kd.R_below (by (with_reducible repeat (first | apply Kd.R_alloc | apply Kd.R_drewN | apply Kd.R_drew)); exact (Kd.R_mono (Kd.R_far (p := ⟨gb1089, 2, none⟩) (Kd.R_far (p := ⟨gb1089, 1, none⟩) (Kd.R_far (p := ⟨gb1089, 0, none⟩) (Kd.R_mono HO_13.out (fun k_ hk => (⟨hk, hk.2⟩ : _ ∧ k_ ≠ gb1089))) (fun _ hk => hk.2) (.int .i64 t1085)) (fun _ hk => hk.2) (.int .i64 t1086)) (fun _ hk => hk.2) (.int .i64 t1087)) (fun _ h_ => h_.1))) hb); have n2_ := Aside0.mk (blk_below (g := gb1059) (o := .cells #[.int .i64 a2_0, .int .i64 a2_1, .int .i64 a2_2] 39 (0, 0)) (bkF BK1059) hb); have n3_ := Aside0.mk (blk_below (g := gb1089) (o := .cells #[.int .i64 t1085, .int .i64 t1086, .int .i64 t1087] 39 (0, 0)) (by refine dr ?_; refine blk_put (cs := #[.int .i64 t1085, .int .i64 t1086, .int .i64 0]) ?_ 2 _ rfl; refine dr ?_; refine blk_put (cs := #[.int .i64 t1085, .int .i64 0, .int .i64 0]) ?_ 1 _ rfl; refine dr ?_; refine blk_put (cs := #[.int .i64 0, .int .i64 0, .int .i64 0]) ?_ 0 _ rfl; exact bkA BK1089) hb); have n4_ := lB hb; clear HO_11; clear HO_13; clear BK1059; clear BK1089; clear HB; have HO_11 := n0_; have HO_13 := n1_; have BK1059 := n2_; have BK1089 := n3_; have HB := n4_; clear n0_ n1_ n2_ n3_ n4_; (try clear hb); (try clear hb2); (try clear hk); (try clear hi); obtain ⟨hcz83_0, hcz83_1, hcz83_2, hfz83_0, hfz83_1, hfz83_2⟩ := cz3 BK1089) | (go_at_call 67; (with_reducible refine (spec_l06Find.calls k3 _ _ x13_3 t1085 t1086 t1087 t1091 _ ?side1 ?side2 A52.out).mono ?_); (case side1 => repeat (first | exact (Kd.R_reads' HO_13.out).2.2 | (with_reducible refine Kd.C_alloc ?_ _) | (with_reducible refine Kd.C_drewN ?_ _) | (with_reducible refine Kd.C_drew ?_))); (case side2 => exact (Kd.R_reads' HO_13.out).2.1); rintro e w84 ⟨rfl, hb⟩; have n0_ := Aside0.mk (Kd.R_below (rA HO_11) hb); have n1_ := Aside0.mk (Kd.R_below (rA HO_13) hb); have n2_ := kB BK1059 hb; have n3_ := kB BK1089 hb; have n4_ := lB hb; clear HO_11; clear HO_13; clear BK1059; clear BK1089; clear HB; have HO_11 := n0_; have HO_13 := n1_; have BK1059 := n2_; have BK1089 := n3_; have HB := n4_; clear n0_ n1_ n2_ n3_ n4_; (try clear hb); (try clear hb2); (try clear hk); (try clear hi)))
                    go_roundg k3
                    case measure => have := HK1.out; have := HK2.out; have := HK3.out; omega
                    case rel => exact ⟨(x13_3), (wrap64 (x15_3 + 1)), hB, H', ⟨by have := HK1.out; have := HK2.out; have := HK3.out; omega⟩, ⟨rA HO_11⟩, ⟨by (with_reducible repeat (first | apply Kd.R_alloc | apply Kd.R_drewN | apply Kd.R_drew)); exact Kd.R_mono HO_13.out (fun _ hk => hk.1)⟩, ⟨bkA BK1059⟩, ⟨blA⟩⟩
                  ·
                   rw [if_neg c51] at H
                   have c51b0 := decide_eq_false c51
                   clear c51
                   have H' := Aside0.mk H
                   clear H
                   obtain ⟨Ao85, co85, eo85⟩ := Kd.R_slice HO_11.out
                   subst eo85
                   try go_wp2
                   have n0_ := Aside0.mk (Kd.R_drew HO_11.out)
                   have n1_ := Aside0.mk (Kd.R_drew HO_13.out)
                   have n2_ := Aside0.mk (blk_drew BK1059.out)
                   have n3_ := Aside0.mk (below_drew1 HB.out)
                   clear HO_11
                   clear HO_13
                   clear BK1059
                   clear HB
                   have HO_11 := n0_
                   have HO_13 := n1_
                   have BK1059 := n2_
                   have HB := n3_
                   clear n0_ n1_ n2_ n3_
                   have p1083 : 0 ≤ (x15_3 : Int) := dA
                   have q1083 : x15_3 < (x11_1.length : Int) := dA
                   obtain ⟨ad1083, e1083, hx1083_0, hx1083_1, hx1083_2, hx1083_3⟩ := at_T26 (Kd.R_reads' HO_11.out).2.2 x15_3 p1083 q1083
                   cases e1083
                   replace p1083 := eq_true p1083
                   replace q1083 := eq_true q1083
                   obtain ⟨Ao87, co87, eo87⟩ := Kd.R_slice HO_13.out
                   (first | subst eo87 | (injection eo87 with f1_ f2_ f3_; have f4_ := f1_.symm; have f5_ := f3_.symm; clear f1_ f2_ f3_; subst f4_; subst f5_))
                   have p1084 : 0 ≤ (x14_2 : Int) := dA
                   have q1084 : x14_2 < (x13_3.length : Int) := dA
                   obtain ⟨ad1084, e1084, hx1084_0, hx1084_1, hx1084_2⟩ := at_T39 (Kd.R_reads' HO_13.out).2.2 x14_2 p1084 q1084
                   cases e1084
                   replace p1084 := eq_true p1084
                   replace q1084 := eq_true q1084
                   refine start_ (n := 16) (S := fun w' => w'.cell? (ad1083.add ((x15_3).toNat * 4)) = some (.int .i64 ((rd_T26 x11_1 x15_3).f0.f0)) ∧ w'.cell? ⟨(ad1083.add ((x15_3).toNat * 4)).block, (ad1083.add ((x15_3).toNat * 4)).off + 1, none⟩ = some (.int .i64 ((rd_T26 x11_1 x15_3).f0.f1)) ∧ w'.cell? ⟨(ad1083.add ((x15_3).toNat * 4)).block, (ad1083.add ((x15_3).toNat * 4)).off + 2, none⟩ = some (.int .i64 ((rd_T26 x11_1 x15_3).f1.f0)) ∧ w'.cell? ⟨(ad1083.add ((x15_3).toNat * 4)).block, (ad1083.add ((x15_3).toNat * 4)).off + 3, none⟩ = some (.int .i64 ((rd_T26 x11_1 x15_3).f1.f1)) ∧ w'.cell? (ad1084.add ((x14_2).toNat * 3)) = some (.int .i64 ((rd_T39 x13_3 x14_2).f0)) ∧ w'.cell? ⟨(ad1084.add ((x14_2).toNat * 3)).block, (ad1084.add ((x14_2).toNat * 3)).off + 1, none⟩ = some (.int .i64 ((rd_T39 x13_3 x14_2).f1)) ∧ w'.cell? ⟨(ad1084.add ((x14_2).toNat * 3)).block, (ad1084.add ((x14_2).toNat * 3)).off + 2, none⟩ = some (.int .i64 ((rd_T39 x13_3 x14_2).f2))) (ds := []) #[Z, Z, Z, Z, Z, Z, Z, Z, Z, Z, Z, Z, Z, Z, Z, Z] (by kernel_rfl) rfl rfl ⟨hx1083_0, hx1083_1, hx1083_2, hx1083_3, hx1084_0, hx1084_1, hx1084_2⟩ (fun hHeld => ?_); refine with_tabW spec_OrbitIn.tab20 spec_OrbitIn.bits20 (fun HT_ HW_ => ?_)
                   generalize wr.drew = w86 at HO_11 HO_13 BK1059 HB hx1083_0 hx1083_1 hx1083_2 hx1083_3 hx1084_0 hx1084_1 hx1084_2 hHeld ⊢
                   refine puA (i := 0) (N := some 68) #[Y, Z, Z, Z, Z, Z, Z, Z, Z, Z, Z, Z, Z, Z, Z, Z] rfl rfl HT_ ?_
                   refine puA (i := 1) (N := some 69) #[Y, Y, Z, Z, Z, Z, Z, Z, Z, Z, Z, Z, Z, Z, Z, Z] rfl rfl HT_ ?_
                   refine puA (i := 2) (N := some 70) #[Y, Y, Y, Z, Z, Z, Z, Z, Z, Z, Z, Z, Z, Z, Z, Z] rfl rfl HT_ ?_
                   refine puA (i := 3) (N := some 71) #[Y, Y, Y, Y, Z, Z, Z, Z, Z, Z, Z, Z, Z, Z, Z, Z] rfl rfl HT_ ?_
                   refine puA (i := 5) (N := some 73) #[Y, Y, Y, Y, Z, Y, Z, Z, Z, Z, Z, Z, Z, Z, Z, Z] rfl rfl HT_ ?_
                   refine puA (i := 6) (N := some 74) #[Y, Y, Y, Y, Z, Y, Y, Z, Z, Z, Z, Z, Z, Z, Z, Z] rfl rfl HT_ ?_
                   refine puA (i := 7) (N := some 75) #[Y, Y, Y, Y, Z, Y, Y, Y, Z, Z, Z, Z, Z, Z, Z, Z] rfl rfl HT_ ?_
                   refine take_ (i := 4) (N := some 72) (v := ?_) (a' := ?_) #[Y, Y, Y, Y, Y, Y, Y, Y, Z, Z, Z, Z, Z, Z, Z, Z] rfl rfl (take_ofW HT_.out HW_.out (by kernel_rfl)) (fun _ _ _ h => h) (Or.inl ⟨by rfl, ?_⟩) hHeld ?_ ?_
                   rotate_left
                   ·
                    rintro w' ⟨s0, s1, s2, s3, s4, s5, s6⟩
                    go_simp
                    with_reducible rfl
                   rotate_left
                   ·
                    simp only [pA]
                    rfl
                   refine take_ (i := 8) (N := some 76) (v := ?_) (a' := ?_) #[Y, Y, Y, Y, Y, Y, Y, Y, Y, Z, Z, Z, Z, Z, Z, Z] rfl rfl (take_ofW HT_.out HW_.out (by kernel_rfl)) (fun _ _ _ h => h) (Or.inl ⟨by rfl, ?_⟩) hHeld ?_ ?_
                   rotate_left
                   ·
                    rintro w' ⟨s0, s1, s2, s3, s4, s5, s6⟩
                    go_simp
                    with_reducible rfl
                   rotate_left
                   ·
                    simp only [pA]
                    rfl
                   refine join_ (σ := Nat) 2 #[Y, Y, Y, Y, Y, Y, Y, Y, Y, Y, Y, Y, Y, Y, Z, Z] (fun s_ => [(77, .tuple #[.agg #[.int .i64 t1085, .int .i64 t1086, .int .i64 t1087], .bool true]), (16, .pointer (some ⟨s_, 0, none⟩)), (67, .tuple #[.agg #[.int .i64 t1085, .int .i64 t1086, .int .i64 t1087], .bool true]), (78, .agg #[.int .i64 t1085, .int .i64 t1086, .int .i64 t1087]), (79, .bool true)]) (fun s_ w' => (w'.cell? (ad1083.add ((x15_3).toNat * 4)) = some (.int .i64 ((rd_T26 x11_1 x15_3).f0.f0)) ∧ w'.cell? ⟨(ad1083.add ((x15_3).toNat * 4)).block, (ad1083.add ((x15_3).toNat * 4)).off + 1, none⟩ = some (.int .i64 ((rd_T26 x11_1 x15_3).f0.f1)) ∧ w'.cell? ⟨(ad1083.add ((x15_3).toNat * 4)).block, (ad1083.add ((x15_3).toNat * 4)).off + 2, none⟩ = some (.int .i64 ((rd_T26 x11_1 x15_3).f1.f0)) ∧ w'.cell? ⟨(ad1083.add ((x15_3).toNat * 4)).block, (ad1083.add ((x15_3).toNat * 4)).off + 3, none⟩ = some (.int .i64 ((rd_T26 x11_1 x15_3).f1.f1)) ∧ w'.cell? (ad1084.add ((x14_2).toNat * 3)) = some (.int .i64 ((rd_T39 x13_3 x14_2).f0)) ∧ w'.cell? ⟨(ad1084.add ((x14_2).toNat * 3)).block, (ad1084.add ((x14_2).toNat * 3)).off + 1, none⟩ = some (.int .i64 ((rd_T39 x13_3 x14_2).f1)) ∧ w'.cell? ⟨(ad1084.add ((x14_2).toNat * 3)).block, (ad1084.add ((x14_2).toNat * 3)).off + 2, none⟩ = some (.int .i64 ((rd_T39 x13_3 x14_2).f2))) ∧ (Kd.R k26 26 w' w.heap.size (fun _ => True) (.slice (some ad1083) x11_1.length co85) x11_1) ∧ (Kd.R k39 39 w' w.heap.size (fun k_ => k_ ≠ gb1059 ∧ k_ ≠ s_) (.slice (some ad1084) x13_3.length co87) x13_3) ∧ (w'.heap[gb1059]? = some (.cells #[.int .i64 a2_0, .int .i64 a2_1, .int .i64 a2_2] 39 (0, 0))) ∧ (w'.heap[s_]? = some (.cells #[.int .i64 0, .int .i64 0, .int .i64 0] 39 (0, 0))) ∧ (w.heap.size ≤ s_) ∧ (w.heap.size ≤ s_) ∧ (gb1059 ≠ s_) ∧ (s_ ≠ gb1059) ∧ (Below w.heap.size w w')) ?_ ?_
                   rotate_left
                   ·
                    intro hCont
                    refine two_ (i := 9) (j := 13) (Ni := some 77) (Nj := some 16) #[Y, Y, Y, Y, Y, Y, Y, Y, Y, Y, Z, Z, Z, Z, Z, Z] #[Y, Y, Y, Y, Y, Y, Y, Y, Y, Z, Z, Z, Z, Y, Z, Z] rfl rfl rfl rfl (two_of HT_.out (by kernel_rfl)) (by decide) (by decide) (fun K hK => ?_) (fun K hK => ?_)
                    ·
                     skip
                     refine goes_ Try.func62 (by kernel_rfl) rfl #[.int .i64 a0, .agg #[.int .i64 ((rd_T26 x11_1 x15_3).f0.f0), .int .i64 ((rd_T26 x11_1 x15_3).f0.f1), .int .i64 ((rd_T26 x11_1 x15_3).f1.f0), .int .i64 ((rd_T26 x11_1 x15_3).f1.f1)], .agg #[.int .i64 ((rd_T39 x13_3 x14_2).f0), .int .i64 ((rd_T39 x13_3 x14_2).f1), .int .i64 ((rd_T39 x13_3 x14_2).f2)]] (by rfl) rfl rfl hA ?_
                     with_reducible refine (spec_l04Move.calls k3 a0 ((rd_T26 x11_1 x15_3).f0.f0) ((rd_T26 x11_1 x15_3).f0.f1) ((rd_T26 x11_1 x15_3).f1.f0) ((rd_T26 x11_1 x15_3).f1.f1) ((rd_T39 x13_3 x14_2).f0) ((rd_T39 x13_3 x14_2).f1) ((rd_T39 x13_3 x14_2).f2) t1085 t1086 t1087 true _ A48.out).mono ?_
                     rintro e w88 ⟨rfl, hb⟩
                     have HS0_ := (hb.cell (World.block_lt_of_cell? _ _ (hHeld.1))).trans (hHeld.1)
                     have HS1_ := (hb.cell (World.block_lt_of_cell? _ _ (hHeld.2.1))).trans (hHeld.2.1)
                     have HS2_ := (hb.cell (World.block_lt_of_cell? _ _ (hHeld.2.2.1))).trans (hHeld.2.2.1)
                     have HS3_ := (hb.cell (World.block_lt_of_cell? _ _ (hHeld.2.2.2.1))).trans (hHeld.2.2.2.1)
                     have HS4_ := (hb.cell (World.block_lt_of_cell? _ _ (hHeld.2.2.2.2.1))).trans (hHeld.2.2.2.2.1)
                     have HS5_ := (hb.cell (World.block_lt_of_cell? _ _ (hHeld.2.2.2.2.2.1))).trans (hHeld.2.2.2.2.2.1)
                     have HS6_ := (hb.cell (World.block_lt_of_cell? _ _ (hHeld.2.2.2.2.2.2))).trans (hHeld.2.2.2.2.2.2)
                     refine ⟨_, rfl, ?_⟩
                     replace HO_11 := Aside0.mk (Kd.R_below (rA HO_11) hb)
                     replace HO_13 := Aside0.mk (Kd.R_below (rA HO_13) hb)
                     replace BK1059 := kB BK1059 hb
                     replace HB := lB hb
                     (try clear hb)
                     (try clear hb2)
                     (try clear hk)
                     (try clear hi)
                     refine hK.out _ _ ⟨HS0_, HS1_, HS2_, HS3_, HS4_, HS5_, HS6_⟩ (fun hHeld => ?_)
                     clear hK K
                     refine norm_ (a' := ?_) ?_ ?_
                     rotate_left
                     ·
                      show Act.put _ (some 77) _ = _
                      simp only [pA]
                      rfl
                     refine puA (i := 10) (N := some 67) #[Y, Y, Y, Y, Y, Y, Y, Y, Y, Y, Y, Z, Z, Z, Z, Z] rfl rfl HT_ ?_
                     refine puA (i := 11) (N := some 78) #[Y, Y, Y, Y, Y, Y, Y, Y, Y, Y, Y, Y, Z, Z, Z, Z] rfl rfl HT_ ?_
                     refine puA (i := 12) (N := some 79) #[Y, Y, Y, Y, Y, Y, Y, Y, Y, Y, Y, Y, Y, Z, Z, Z] rfl rfl HT_ ?_
                     refine one_ (i := 13) (N := some 16) #[Y, Y, Y, Y, Y, Y, Y, Y, Y, Y, Y, Y, Y, Y, Z, Z] rfl rfl (one_of HT_.out (by kernel_rfl)) (by decide) (fun K hK => ?_)
                     refine box_step ?hg (N := 16) ?hd (cs := #[.int .i64 0, .int .i64 0, .int .i64 0]) (t := 39) ?hr ?_; (case hd => rfl); (case hg => rfl); (case hr => first | (go_simp; done) | (go_simp; rfl))
                     intro gb1089 hg w89 hbox hb
                     have HS0_ := (hb.cell (World.block_lt_of_cell? _ _ (hHeld.1))).trans (hHeld.1)
                     have HS1_ := (hb.cell (World.block_lt_of_cell? _ _ (hHeld.2.1))).trans (hHeld.2.1)
                     have HS2_ := (hb.cell (World.block_lt_of_cell? _ _ (hHeld.2.2.1))).trans (hHeld.2.2.1)
                     have HS3_ := (hb.cell (World.block_lt_of_cell? _ _ (hHeld.2.2.2.1))).trans (hHeld.2.2.2.1)
                     have HS4_ := (hb.cell (World.block_lt_of_cell? _ _ (hHeld.2.2.2.2.1))).trans (hHeld.2.2.2.2.1)
                     have HS5_ := (hb.cell (World.block_lt_of_cell? _ _ (hHeld.2.2.2.2.2.1))).trans (hHeld.2.2.2.2.2.1)
                     have HS6_ := (hb.cell (World.block_lt_of_cell? _ _ (hHeld.2.2.2.2.2.2))).trans (hHeld.2.2.2.2.2.2)
                     have BK1089 := Aside0.mk (hbox)
                     have GW1089 := sA hg
                     have GE1089 := sA hg
                     have NB1059_1089 := nA hg BK1059
                     have NB1089_1059 := nB hg BK1059
                     replace HO_11 := Aside0.mk (Kd.R_below (rA HO_11) hb)
                     replace HO_13 := Aside0.mk (Kd.R_below (Kd.R_elderB (rA HO_13) gb1089 (Nat.le_of_eq hg.symm)) hb)
                     replace BK1059 := kB BK1059 hb
                     replace HB := lB hb
                     clear hb hbox hg
                     refine hK.out _ _ ⟨HS0_, HS1_, HS2_, HS3_, HS4_, HS5_, HS6_⟩ (fun hHeld => ?_)
                     clear hK K
                     refine norm_ (a' := ?_) ?_ ?_
                     rotate_left
                     ·
                      show Act.put _ (some 16) _ = _
                      simp only [pA]
                      rfl
                     exact norm_ (by simp only [putAll, Act.put, List.setIfInBounds_toArray, List.set_cons_zero, List.set_cons_succ]) (hCont (gb1089) _ ⟨hHeld, (rA HO_11), (rA HO_13), (bkA BK1059), (bkA BK1089), GW1089.out, GE1089.out, NB1059_1089.out, NB1089_1059.out, blA⟩)
                    ·
                     skip
                     refine box_step ?hg (N := 16) ?hd (cs := #[.int .i64 0, .int .i64 0, .int .i64 0]) (t := 39) ?hr ?_; (case hd => rfl); (case hg => rfl); (case hr => first | (go_simp; done) | (go_simp; rfl))
                     intro gb1089 hg w88 hbox hb
                     have HS0_ := (hb.cell (World.block_lt_of_cell? _ _ (hHeld.1))).trans (hHeld.1)
                     have HS1_ := (hb.cell (World.block_lt_of_cell? _ _ (hHeld.2.1))).trans (hHeld.2.1)
                     have HS2_ := (hb.cell (World.block_lt_of_cell? _ _ (hHeld.2.2.1))).trans (hHeld.2.2.1)
                     have HS3_ := (hb.cell (World.block_lt_of_cell? _ _ (hHeld.2.2.2.1))).trans (hHeld.2.2.2.1)
                     have HS4_ := (hb.cell (World.block_lt_of_cell? _ _ (hHeld.2.2.2.2.1))).trans (hHeld.2.2.2.2.1)
                     have HS5_ := (hb.cell (World.block_lt_of_cell? _ _ (hHeld.2.2.2.2.2.1))).trans (hHeld.2.2.2.2.2.1)
                     have HS6_ := (hb.cell (World.block_lt_of_cell? _ _ (hHeld.2.2.2.2.2.2))).trans (hHeld.2.2.2.2.2.2)
                     have BK1089 := Aside0.mk (hbox)
                     have GW1089 := sA hg
                     have GE1089 := sA hg
                     have NB1059_1089 := nA hg BK1059
                     have NB1089_1059 := nB hg BK1059
                     replace HO_11 := Aside0.mk (Kd.R_below (rA HO_11) hb)
                     replace HO_13 := Aside0.mk (Kd.R_below (Kd.R_elderB (rA HO_13) gb1089 (Nat.le_of_eq hg.symm)) hb)
                     replace BK1059 := kB BK1059 hb
                     replace HB := lB hb
                     clear hb hbox hg
                     refine hK.out _ _ ⟨HS0_, HS1_, HS2_, HS3_, HS4_, HS5_, HS6_⟩ (fun hHeld => ?_)
                     clear hK K
                     refine norm_ (a' := ?_) ?_ ?_
                     rotate_left
                     ·
                      show Act.put _ (some 16) _ = _
                      simp only [pA]
                      rfl
                     refine one_ (i := 9) (N := some 77) #[Y, Y, Y, Y, Y, Y, Y, Y, Y, Y, Z, Z, Z, Y, Z, Z] rfl rfl (one_of HT_.out (by kernel_rfl)) (by decide) (fun K hK => ?_)
                     refine goes_ Try.func62 (by kernel_rfl) rfl #[.int .i64 a0, .agg #[.int .i64 ((rd_T26 x11_1 x15_3).f0.f0), .int .i64 ((rd_T26 x11_1 x15_3).f0.f1), .int .i64 ((rd_T26 x11_1 x15_3).f1.f0), .int .i64 ((rd_T26 x11_1 x15_3).f1.f1)], .agg #[.int .i64 ((rd_T39 x13_3 x14_2).f0), .int .i64 ((rd_T39 x13_3 x14_2).f1), .int .i64 ((rd_T39 x13_3 x14_2).f2)]] (by rfl) rfl rfl hA ?_
                     with_reducible refine (spec_l04Move.calls k3 a0 ((rd_T26 x11_1 x15_3).f0.f0) ((rd_T26 x11_1 x15_3).f0.f1) ((rd_T26 x11_1 x15_3).f1.f0) ((rd_T26 x11_1 x15_3).f1.f1) ((rd_T39 x13_3 x14_2).f0) ((rd_T39 x13_3 x14_2).f1) ((rd_T39 x13_3 x14_2).f2) t1085 t1086 t1087 true _ A48.out).mono ?_
                     rintro e w89 ⟨rfl, hb⟩
                     have HS0_ := (hb.cell (World.block_lt_of_cell? _ _ (hHeld.1))).trans (hHeld.1)
                     have HS1_ := (hb.cell (World.block_lt_of_cell? _ _ (hHeld.2.1))).trans (hHeld.2.1)
                     have HS2_ := (hb.cell (World.block_lt_of_cell? _ _ (hHeld.2.2.1))).trans (hHeld.2.2.1)
                     have HS3_ := (hb.cell (World.block_lt_of_cell? _ _ (hHeld.2.2.2.1))).trans (hHeld.2.2.2.1)
                     have HS4_ := (hb.cell (World.block_lt_of_cell? _ _ (hHeld.2.2.2.2.1))).trans (hHeld.2.2.2.2.1)
                     have HS5_ := (hb.cell (World.block_lt_of_cell? _ _ (hHeld.2.2.2.2.2.1))).trans (hHeld.2.2.2.2.2.1)
                     have HS6_ := (hb.cell (World.block_lt_of_cell? _ _ (hHeld.2.2.2.2.2.2))).trans (hHeld.2.2.2.2.2.2)
                     refine ⟨_, rfl, ?_⟩
                     replace HO_11 := Aside0.mk (Kd.R_below (rA HO_11) hb)
                     replace HO_13 := Aside0.mk (Kd.R_below (rA HO_13) hb)
                     replace BK1059 := kB BK1059 hb
                     replace BK1089 := kB BK1089 hb
                     replace HB := lB hb
                     (try clear hb)
                     (try clear hb2)
                     (try clear hk)
                     (try clear hi)
                     refine hK.out _ _ ⟨HS0_, HS1_, HS2_, HS3_, HS4_, HS5_, HS6_⟩ (fun hHeld => ?_)
                     clear hK K
                     refine norm_ (a' := ?_) ?_ ?_
                     rotate_left
                     ·
                      show Act.put _ (some 77) _ = _
                      simp only [pA]
                      rfl
                     refine puA (i := 10) (N := some 67) #[Y, Y, Y, Y, Y, Y, Y, Y, Y, Y, Y, Z, Z, Y, Z, Z] rfl rfl HT_ ?_
                     refine puA (i := 11) (N := some 78) #[Y, Y, Y, Y, Y, Y, Y, Y, Y, Y, Y, Y, Z, Y, Z, Z] rfl rfl HT_ ?_
                     refine puA (i := 12) (N := some 79) #[Y, Y, Y, Y, Y, Y, Y, Y, Y, Y, Y, Y, Y, Y, Z, Z] rfl rfl HT_ ?_
                     exact norm_ (by simp only [putAll, Act.put, List.setIfInBounds_toArray, List.set_cons_zero, List.set_cons_succ]) (hCont (gb1089) _ ⟨hHeld, (rA HO_11), (rA HO_13), (bkA BK1059), (bkA BK1089), GW1089.out, GE1089.out, NB1059_1089.out, NB1089_1059.out, blA⟩)
                   rintro gb1089 w90 ⟨hS_, h0_, h1_, h2_, h3_, h4_, h5_, h6_, h7_, h8_⟩
                   have BK1089 := Aside0.mk h3_
                   have GW1089 := Aside0.mk h4_
                   have GE1089 := Aside0.mk h5_
                   have NB1059_1089 := Aside0.mk h6_
                   have NB1089_1059 := Aside0.mk h7_
                   replace HO_11 := Aside0.mk h0_
                   replace HO_13 := Aside0.mk h1_
                   replace BK1059 := Aside0.mk h2_
                   replace HB := Aside0.mk h8_
                   clear h0_ h1_ h2_ h3_ h4_ h5_ h6_ h7_ h8_
                   have hHeld : w90.cell? (ad1083.add ((x15_3).toNat * 4)) = some (.int .i64 ((rd_T26 x11_1 x15_3).f0.f0)) ∧ w90.cell? ⟨(ad1083.add ((x15_3).toNat * 4)).block, (ad1083.add ((x15_3).toNat * 4)).off + 1, none⟩ = some (.int .i64 ((rd_T26 x11_1 x15_3).f0.f1)) ∧ w90.cell? ⟨(ad1083.add ((x15_3).toNat * 4)).block, (ad1083.add ((x15_3).toNat * 4)).off + 2, none⟩ = some (.int .i64 ((rd_T26 x11_1 x15_3).f1.f0)) ∧ w90.cell? ⟨(ad1083.add ((x15_3).toNat * 4)).block, (ad1083.add ((x15_3).toNat * 4)).off + 3, none⟩ = some (.int .i64 ((rd_T26 x11_1 x15_3).f1.f1)) ∧ w90.cell? (ad1084.add ((x14_2).toNat * 3)) = some (.int .i64 ((rd_T39 x13_3 x14_2).f0)) ∧ w90.cell? ⟨(ad1084.add ((x14_2).toNat * 3)).block, (ad1084.add ((x14_2).toNat * 3)).off + 1, none⟩ = some (.int .i64 ((rd_T39 x13_3 x14_2).f1)) ∧ w90.cell? ⟨(ad1084.add ((x14_2).toNat * 3)).block, (ad1084.add ((x14_2).toNat * 3)).off + 2, none⟩ = some (.int .i64 ((rd_T39 x13_3 x14_2).f2)) := hS_
                   refine norm_ (a' := ?_) ?_ ?_
                   rotate_left
                   ·
                    simp only [putAll, Act.put, List.setIfInBounds_toArray, List.set_cons_zero, List.set_cons_succ]
                    rfl
                   refine one_ (i := 14) (N := none) #[Y, Y, Y, Y, Y, Y, Y, Y, Y, Y, Y, Y, Y, Y, Y, Z] rfl rfl (one_of HT_.out (by kernel_rfl)) (by decide) (fun K hK => ?_)
                   have hs91 : w90.cell? ⟨gb1089, 0, none⟩ = some (.int .i64 0) := cA BK1089 0
                   have hfs91 := blk_frozen BK1089.out 0
                   have hns91_0 := NB1059_1089.out
                   have hms91_0 := NB1089_1059.out
                   have hs92 : w90.cell? ⟨gb1089, 1, none⟩ = some (.int .i64 0) := cA BK1089 1
                   have hfs92 := blk_frozen BK1089.out 1
                   have hns92_0 := NB1059_1089.out
                   have hms92_0 := NB1089_1059.out
                   have hs93 : w90.cell? ⟨gb1089, 2, none⟩ = some (.int .i64 0) := cA BK1089 2
                   have hfs93 := blk_frozen BK1089.out 2
                   have hns93_0 := NB1059_1089.out
                   have hms93_0 := NB1089_1059.out
                   refine skip_ (w1 := ?_) (by rfl) rfl ?_ ?_
                   rotate_left
                   ·
                    go_simp
                    rfl
                   refine hK.out _ _ ⟨((cell_far (p := ⟨gb1089, _, none⟩) (fB (Kd.own_blk (Kd.R_ne HO_11.out BK1089.out (by decide)))) _).trans (((cell_far (p := ⟨gb1089, _, none⟩) (fB (Kd.own_blk (Kd.R_ne HO_11.out BK1089.out (by decide)))) _).trans (((cell_far (p := ⟨gb1089, _, none⟩) (fB (Kd.own_blk (Kd.R_ne HO_11.out BK1089.out (by decide)))) _).trans (hHeld.1)))))), ((cell_far (p := ⟨gb1089, _, none⟩) (fB (Kd.own_blk (Kd.R_ne HO_11.out BK1089.out (by decide)))) _).trans (((cell_far (p := ⟨gb1089, _, none⟩) (fB (Kd.own_blk (Kd.R_ne HO_11.out BK1089.out (by decide)))) _).trans (((cell_far (p := ⟨gb1089, _, none⟩) (fB (Kd.own_blk (Kd.R_ne HO_11.out BK1089.out (by decide)))) _).trans (hHeld.2.1)))))), ((cell_far (p := ⟨gb1089, _, none⟩) (fB (Kd.own_blk (Kd.R_ne HO_11.out BK1089.out (by decide)))) _).trans (((cell_far (p := ⟨gb1089, _, none⟩) (fB (Kd.own_blk (Kd.R_ne HO_11.out BK1089.out (by decide)))) _).trans (((cell_far (p := ⟨gb1089, _, none⟩) (fB (Kd.own_blk (Kd.R_ne HO_11.out BK1089.out (by decide)))) _).trans (hHeld.2.2.1)))))), ((cell_far (p := ⟨gb1089, _, none⟩) (fB (Kd.own_blk (Kd.R_ne HO_11.out BK1089.out (by decide)))) _).trans (((cell_far (p := ⟨gb1089, _, none⟩) (fB (Kd.own_blk (Kd.R_ne HO_11.out BK1089.out (by decide)))) _).trans (((cell_far (p := ⟨gb1089, _, none⟩) (fB (Kd.own_blk (Kd.R_ne HO_11.out BK1089.out (by decide)))) _).trans (hHeld.2.2.2.1)))))), ((cell_far (p := ⟨gb1089, _, none⟩) (fB (Kd.own_blk (Kd.R_away HO_13.out (fun _ hk => hk.2)))) _).trans (((cell_far (p := ⟨gb1089, _, none⟩) (fB (Kd.own_blk (Kd.R_away HO_13.out (fun _ hk => hk.2)))) _).trans (((cell_far (p := ⟨gb1089, _, none⟩) (fB (Kd.own_blk (Kd.R_away HO_13.out (fun _ hk => hk.2)))) _).trans (hHeld.2.2.2.2.1)))))), ((cell_far (p := ⟨gb1089, _, none⟩) (fB (Kd.own_blk (Kd.R_away HO_13.out (fun _ hk => hk.2)))) _).trans (((cell_far (p := ⟨gb1089, _, none⟩) (fB (Kd.own_blk (Kd.R_away HO_13.out (fun _ hk => hk.2)))) _).trans (((cell_far (p := ⟨gb1089, _, none⟩) (fB (Kd.own_blk (Kd.R_away HO_13.out (fun _ hk => hk.2)))) _).trans (hHeld.2.2.2.2.2.1)))))), ((cell_far (p := ⟨gb1089, _, none⟩) (fB (Kd.own_blk (Kd.R_away HO_13.out (fun _ hk => hk.2)))) _).trans (((cell_far (p := ⟨gb1089, _, none⟩) (fB (Kd.own_blk (Kd.R_away HO_13.out (fun _ hk => hk.2)))) _).trans (((cell_far (p := ⟨gb1089, _, none⟩) (fB (Kd.own_blk (Kd.R_away HO_13.out (fun _ hk => hk.2)))) _).trans (hHeld.2.2.2.2.2.2))))))⟩ (fun hHeld => ?_)
                   clear hK K
                   refine puA (i := 15) (N := some 17) #[Y, Y, Y, Y, Y, Y, Y, Y, Y, Y, Y, Y, Y, Y, Y, Y] rfl rfl HT_ ?_
                   refine done_ (done_of HT_.out (by kernel_rfl)) ?_
                   have hnb94 := NB1089_1059.out
                   have hnc94 := NB1059_1089.out
                   obtain ⟨hcz95_0, hcz95_1, hcz95_2, hfz95_0, hfz95_1, hfz95_2⟩ := cz3 BK1089
                   try go_wp2_with (first | (go_at_call 102; (with_reducible refine (spec_l02Distance.calls k3 a0 0 0 0 t1085 t1086 t1087 t1090 _ A50.out).mono ?_); rintro e w96 ⟨rfl, hb⟩; have n0_ := Aside0.mk (Kd.R_below (by (with_reducible repeat (first | apply Kd.R_alloc | apply Kd.R_drewN | apply Kd.R_drew)); exact (Kd.R_mono (Kd.R_far (p := ⟨gb1089, 2, none⟩) (Kd.R_far (p := ⟨gb1089, 1, none⟩) (Kd.R_far (p := ⟨gb1089, 0, none⟩) (Kd.R_types HO_11.out BK1089.out (by decide)) (fun _ hk => hk.2) (.int .i64 t1085)) (fun _ hk => hk.2) (.int .i64 t1086)) (fun _ hk => hk.2) (.int .i64 t1087)) (fun _ h_ => h_.1))) hb); have n1_ := Aside0.mk (Kd.R_below (by (with_reducible repeat (first | apply Kd.R_alloc | apply Kd.R_drewN | apply Kd.R_drew)); exact (Kd.R_mono (Kd.R_far (p := ⟨gb1089, 2, none⟩) (Kd.R_far (p := ⟨gb1089, 1, none⟩) (Kd.R_far (p := ⟨gb1089, 0, none⟩) (Kd.R_mono HO_13.out (fun k_ hk => (⟨hk, hk.2⟩ : _ ∧ k_ ≠ gb1089))) (fun _ hk => hk.2) (.int .i64 t1085)) (fun _ hk => hk.2) (.int .i64 t1086)) (fun _ hk => hk.2) (.int .i64 t1087)) (fun _ h_ => h_.1))) hb); have n2_ := Aside0.mk (blk_below (g := gb1059) (o := .cells #[.int .i64 a2_0, .int .i64 a2_1, .int .i64 a2_2] 39 (0, 0)) (bkF BK1059) hb); have n3_ := Aside0.mk (blk_below (g := gb1089) (o := .cells #[.int .i64 t1085, .int .i64 t1086, .int .i64 t1087] 39 (0, 0)) (by refine dr ?_; refine blk_put (cs := #[.int .i64 t1085, .int .i64 t1086, .int .i64 0]) ?_ 2 _ rfl; refine dr ?_; refine blk_put (cs := #[.int .i64 t1085, .int .i64 0, .int .i64 0]) ?_ 1 _ rfl; refine dr ?_; refine blk_put (cs := #[.int .i64 0, .int .i64 0, .int .i64 0]) ?_ 0 _ rfl; exact bkA BK1089) hb); have n4_ := lB hb; clear HO_11; clear HO_13; clear BK1059; clear BK1089; clear HB; have HO_11 := n0_; have HO_13 := n1_; have BK1059 := n2_; have BK1089 := n3_; have HB := n4_; clear n0_ n1_ n2_ n3_ n4_; (try clear hb); (try clear hb2); (try clear hk); (try clear hi)))
                   go_roundg k3
                   case measure => have := HK1.out; have := HK2.out; have := HK3.out; omega
                   case rel => exact ⟨(x13_3), (wrap64 (x15_3 + 1)), hB, H', ⟨by have := HK1.out; have := HK2.out; have := HK3.out; omega⟩, ⟨rA HO_11⟩, ⟨by (with_reducible repeat (first | apply Kd.R_alloc | apply Kd.R_drewN | apply Kd.R_drew)); exact Kd.R_mono HO_13.out (fun _ hk => hk.1)⟩, ⟨bkA BK1059⟩, ⟨blA⟩⟩
                 ·
                  replace c49 := Bool.eq_false_iff.mpr c49
                  subst c49
                  rw [if_neg (show ¬ (false = true) by decide)] at H
                  try dsimp only at H
                  have H' := Aside0.mk H
                  clear H
                  obtain ⟨Ao97, co97, eo97⟩ := Kd.R_slice HO_11.out
                  subst eo97
                  try go_wp2
                  have n0_ := Aside0.mk (Kd.R_drew HO_11.out)
                  have n1_ := Aside0.mk (Kd.R_drew HO_13.out)
                  have n2_ := Aside0.mk (blk_drew BK1059.out)
                  have n3_ := Aside0.mk (below_drew1 HB.out)
                  clear HO_11
                  clear HO_13
                  clear BK1059
                  clear HB
                  have HO_11 := n0_
                  have HO_13 := n1_
                  have BK1059 := n2_
                  have HB := n3_
                  clear n0_ n1_ n2_ n3_
                  have p1083 : 0 ≤ (x15_3 : Int) := dA
                  have q1083 : x15_3 < (x11_1.length : Int) := dA
                  obtain ⟨ad1083, e1083, hx1083_0, hx1083_1, hx1083_2, hx1083_3⟩ := at_T26 (Kd.R_reads' HO_11.out).2.2 x15_3 p1083 q1083
                  cases e1083
                  replace p1083 := eq_true p1083
                  replace q1083 := eq_true q1083
                  obtain ⟨Ao99, co99, eo99⟩ := Kd.R_slice HO_13.out
                  (first | subst eo99 | (injection eo99 with f1_ f2_ f3_; have f4_ := f1_.symm; have f5_ := f3_.symm; clear f1_ f2_ f3_; subst f4_; subst f5_))
                  have p1084 : 0 ≤ (x14_2 : Int) := dA
                  have q1084 : x14_2 < (x13_3.length : Int) := dA
                  obtain ⟨ad1084, e1084, hx1084_0, hx1084_1, hx1084_2⟩ := at_T39 (Kd.R_reads' HO_13.out).2.2 x14_2 p1084 q1084
                  cases e1084
                  replace p1084 := eq_true p1084
                  replace q1084 := eq_true q1084
                  refine start_ (n := 16) (S := fun w' => w'.cell? (ad1083.add ((x15_3).toNat * 4)) = some (.int .i64 ((rd_T26 x11_1 x15_3).f0.f0)) ∧ w'.cell? ⟨(ad1083.add ((x15_3).toNat * 4)).block, (ad1083.add ((x15_3).toNat * 4)).off + 1, none⟩ = some (.int .i64 ((rd_T26 x11_1 x15_3).f0.f1)) ∧ w'.cell? ⟨(ad1083.add ((x15_3).toNat * 4)).block, (ad1083.add ((x15_3).toNat * 4)).off + 2, none⟩ = some (.int .i64 ((rd_T26 x11_1 x15_3).f1.f0)) ∧ w'.cell? ⟨(ad1083.add ((x15_3).toNat * 4)).block, (ad1083.add ((x15_3).toNat * 4)).off + 3, none⟩ = some (.int .i64 ((rd_T26 x11_1 x15_3).f1.f1)) ∧ w'.cell? (ad1084.add ((x14_2).toNat * 3)) = some (.int .i64 ((rd_T39 x13_3 x14_2).f0)) ∧ w'.cell? ⟨(ad1084.add ((x14_2).toNat * 3)).block, (ad1084.add ((x14_2).toNat * 3)).off + 1, none⟩ = some (.int .i64 ((rd_T39 x13_3 x14_2).f1)) ∧ w'.cell? ⟨(ad1084.add ((x14_2).toNat * 3)).block, (ad1084.add ((x14_2).toNat * 3)).off + 2, none⟩ = some (.int .i64 ((rd_T39 x13_3 x14_2).f2))) (ds := []) #[Z, Z, Z, Z, Z, Z, Z, Z, Z, Z, Z, Z, Z, Z, Z, Z] (by kernel_rfl) rfl rfl ⟨hx1083_0, hx1083_1, hx1083_2, hx1083_3, hx1084_0, hx1084_1, hx1084_2⟩ (fun hHeld => ?_); refine with_tabW spec_OrbitIn.tab20 spec_OrbitIn.bits20 (fun HT_ HW_ => ?_)
                  generalize wr.drew = w98 at HO_11 HO_13 BK1059 HB hx1083_0 hx1083_1 hx1083_2 hx1083_3 hx1084_0 hx1084_1 hx1084_2 hHeld ⊢
                  refine puA (i := 0) (N := some 68) #[Y, Z, Z, Z, Z, Z, Z, Z, Z, Z, Z, Z, Z, Z, Z, Z] rfl rfl HT_ ?_
                  refine puA (i := 1) (N := some 69) #[Y, Y, Z, Z, Z, Z, Z, Z, Z, Z, Z, Z, Z, Z, Z, Z] rfl rfl HT_ ?_
                  refine puA (i := 2) (N := some 70) #[Y, Y, Y, Z, Z, Z, Z, Z, Z, Z, Z, Z, Z, Z, Z, Z] rfl rfl HT_ ?_
                  refine puA (i := 3) (N := some 71) #[Y, Y, Y, Y, Z, Z, Z, Z, Z, Z, Z, Z, Z, Z, Z, Z] rfl rfl HT_ ?_
                  refine puA (i := 5) (N := some 73) #[Y, Y, Y, Y, Z, Y, Z, Z, Z, Z, Z, Z, Z, Z, Z, Z] rfl rfl HT_ ?_
                  refine puA (i := 6) (N := some 74) #[Y, Y, Y, Y, Z, Y, Y, Z, Z, Z, Z, Z, Z, Z, Z, Z] rfl rfl HT_ ?_
                  refine puA (i := 7) (N := some 75) #[Y, Y, Y, Y, Z, Y, Y, Y, Z, Z, Z, Z, Z, Z, Z, Z] rfl rfl HT_ ?_
                  refine take_ (i := 4) (N := some 72) (v := ?_) (a' := ?_) #[Y, Y, Y, Y, Y, Y, Y, Y, Z, Z, Z, Z, Z, Z, Z, Z] rfl rfl (take_ofW HT_.out HW_.out (by kernel_rfl)) (fun _ _ _ h => h) (Or.inl ⟨by rfl, ?_⟩) hHeld ?_ ?_
                  rotate_left
                  ·
                   rintro w' ⟨s0, s1, s2, s3, s4, s5, s6⟩
                   go_simp
                   with_reducible rfl
                  rotate_left
                  ·
                   simp only [pA]
                   rfl
                  refine take_ (i := 8) (N := some 76) (v := ?_) (a' := ?_) #[Y, Y, Y, Y, Y, Y, Y, Y, Y, Z, Z, Z, Z, Z, Z, Z] rfl rfl (take_ofW HT_.out HW_.out (by kernel_rfl)) (fun _ _ _ h => h) (Or.inl ⟨by rfl, ?_⟩) hHeld ?_ ?_
                  rotate_left
                  ·
                   rintro w' ⟨s0, s1, s2, s3, s4, s5, s6⟩
                   go_simp
                   with_reducible rfl
                  rotate_left
                  ·
                   simp only [pA]
                   rfl
                  refine join_ (σ := Nat) 2 #[Y, Y, Y, Y, Y, Y, Y, Y, Y, Y, Y, Y, Y, Y, Z, Z] (fun s_ => [(77, .tuple #[.agg #[.int .i64 t1085, .int .i64 t1086, .int .i64 t1087], .bool false]), (16, .pointer (some ⟨s_, 0, none⟩)), (67, .tuple #[.agg #[.int .i64 t1085, .int .i64 t1086, .int .i64 t1087], .bool false]), (78, .agg #[.int .i64 t1085, .int .i64 t1086, .int .i64 t1087]), (79, .bool false)]) (fun s_ w' => (w'.cell? (ad1083.add ((x15_3).toNat * 4)) = some (.int .i64 ((rd_T26 x11_1 x15_3).f0.f0)) ∧ w'.cell? ⟨(ad1083.add ((x15_3).toNat * 4)).block, (ad1083.add ((x15_3).toNat * 4)).off + 1, none⟩ = some (.int .i64 ((rd_T26 x11_1 x15_3).f0.f1)) ∧ w'.cell? ⟨(ad1083.add ((x15_3).toNat * 4)).block, (ad1083.add ((x15_3).toNat * 4)).off + 2, none⟩ = some (.int .i64 ((rd_T26 x11_1 x15_3).f1.f0)) ∧ w'.cell? ⟨(ad1083.add ((x15_3).toNat * 4)).block, (ad1083.add ((x15_3).toNat * 4)).off + 3, none⟩ = some (.int .i64 ((rd_T26 x11_1 x15_3).f1.f1)) ∧ w'.cell? (ad1084.add ((x14_2).toNat * 3)) = some (.int .i64 ((rd_T39 x13_3 x14_2).f0)) ∧ w'.cell? ⟨(ad1084.add ((x14_2).toNat * 3)).block, (ad1084.add ((x14_2).toNat * 3)).off + 1, none⟩ = some (.int .i64 ((rd_T39 x13_3 x14_2).f1)) ∧ w'.cell? ⟨(ad1084.add ((x14_2).toNat * 3)).block, (ad1084.add ((x14_2).toNat * 3)).off + 2, none⟩ = some (.int .i64 ((rd_T39 x13_3 x14_2).f2))) ∧ (Kd.R k26 26 w' w.heap.size (fun _ => True) (.slice (some ad1083) x11_1.length co97) x11_1) ∧ (Kd.R k39 39 w' w.heap.size (fun k_ => k_ ≠ gb1059 ∧ k_ ≠ s_) (.slice (some ad1084) x13_3.length co99) x13_3) ∧ (w'.heap[gb1059]? = some (.cells #[.int .i64 a2_0, .int .i64 a2_1, .int .i64 a2_2] 39 (0, 0))) ∧ (w'.heap[s_]? = some (.cells #[.int .i64 0, .int .i64 0, .int .i64 0] 39 (0, 0))) ∧ (w.heap.size ≤ s_) ∧ (w.heap.size ≤ s_) ∧ (gb1059 ≠ s_) ∧ (s_ ≠ gb1059) ∧ (Below w.heap.size w w')) ?_ ?_
                  rotate_left
                  ·
                   intro hCont
                   refine two_ (i := 9) (j := 13) (Ni := some 77) (Nj := some 16) #[Y, Y, Y, Y, Y, Y, Y, Y, Y, Y, Z, Z, Z, Z, Z, Z] #[Y, Y, Y, Y, Y, Y, Y, Y, Y, Z, Z, Z, Z, Y, Z, Z] rfl rfl rfl rfl (two_of HT_.out (by kernel_rfl)) (by decide) (by decide) (fun K hK => ?_) (fun K hK => ?_)
                   ·
                    skip
                    refine goes_ Try.func62 (by kernel_rfl) rfl #[.int .i64 a0, .agg #[.int .i64 ((rd_T26 x11_1 x15_3).f0.f0), .int .i64 ((rd_T26 x11_1 x15_3).f0.f1), .int .i64 ((rd_T26 x11_1 x15_3).f1.f0), .int .i64 ((rd_T26 x11_1 x15_3).f1.f1)], .agg #[.int .i64 ((rd_T39 x13_3 x14_2).f0), .int .i64 ((rd_T39 x13_3 x14_2).f1), .int .i64 ((rd_T39 x13_3 x14_2).f2)]] (by rfl) rfl rfl hA ?_
                    with_reducible refine (spec_l04Move.calls k3 a0 ((rd_T26 x11_1 x15_3).f0.f0) ((rd_T26 x11_1 x15_3).f0.f1) ((rd_T26 x11_1 x15_3).f1.f0) ((rd_T26 x11_1 x15_3).f1.f1) ((rd_T39 x13_3 x14_2).f0) ((rd_T39 x13_3 x14_2).f1) ((rd_T39 x13_3 x14_2).f2) t1085 t1086 t1087 false _ A48.out).mono ?_
                    rintro e w100 ⟨rfl, hb⟩
                    have HS0_ := (hb.cell (World.block_lt_of_cell? _ _ (hHeld.1))).trans (hHeld.1)
                    have HS1_ := (hb.cell (World.block_lt_of_cell? _ _ (hHeld.2.1))).trans (hHeld.2.1)
                    have HS2_ := (hb.cell (World.block_lt_of_cell? _ _ (hHeld.2.2.1))).trans (hHeld.2.2.1)
                    have HS3_ := (hb.cell (World.block_lt_of_cell? _ _ (hHeld.2.2.2.1))).trans (hHeld.2.2.2.1)
                    have HS4_ := (hb.cell (World.block_lt_of_cell? _ _ (hHeld.2.2.2.2.1))).trans (hHeld.2.2.2.2.1)
                    have HS5_ := (hb.cell (World.block_lt_of_cell? _ _ (hHeld.2.2.2.2.2.1))).trans (hHeld.2.2.2.2.2.1)
                    have HS6_ := (hb.cell (World.block_lt_of_cell? _ _ (hHeld.2.2.2.2.2.2))).trans (hHeld.2.2.2.2.2.2)
                    refine ⟨_, rfl, ?_⟩
                    replace HO_11 := Aside0.mk (Kd.R_below (rA HO_11) hb)
                    replace HO_13 := Aside0.mk (Kd.R_below (rA HO_13) hb)
                    replace BK1059 := kB BK1059 hb
                    replace HB := lB hb
                    (try clear hb)
                    (try clear hb2)
                    (try clear hk)
                    (try clear hi)
                    refine hK.out _ _ ⟨HS0_, HS1_, HS2_, HS3_, HS4_, HS5_, HS6_⟩ (fun hHeld => ?_)
                    clear hK K
                    refine norm_ (a' := ?_) ?_ ?_
                    rotate_left
                    ·
                     show Act.put _ (some 77) _ = _
                     simp only [pA]
                     rfl
                    refine puA (i := 10) (N := some 67) #[Y, Y, Y, Y, Y, Y, Y, Y, Y, Y, Y, Z, Z, Z, Z, Z] rfl rfl HT_ ?_
                    refine puA (i := 11) (N := some 78) #[Y, Y, Y, Y, Y, Y, Y, Y, Y, Y, Y, Y, Z, Z, Z, Z] rfl rfl HT_ ?_
                    refine puA (i := 12) (N := some 79) #[Y, Y, Y, Y, Y, Y, Y, Y, Y, Y, Y, Y, Y, Z, Z, Z] rfl rfl HT_ ?_
                    refine one_ (i := 13) (N := some 16) #[Y, Y, Y, Y, Y, Y, Y, Y, Y, Y, Y, Y, Y, Y, Z, Z] rfl rfl (one_of HT_.out (by kernel_rfl)) (by decide) (fun K hK => ?_)
                    refine box_step ?hg (N := 16) ?hd (cs := #[.int .i64 0, .int .i64 0, .int .i64 0]) (t := 39) ?hr ?_; (case hd => rfl); (case hg => rfl); (case hr => first | (go_simp; done) | (go_simp; rfl))
                    intro gb1089 hg w101 hbox hb
                    have HS0_ := (hb.cell (World.block_lt_of_cell? _ _ (hHeld.1))).trans (hHeld.1)
                    have HS1_ := (hb.cell (World.block_lt_of_cell? _ _ (hHeld.2.1))).trans (hHeld.2.1)
                    have HS2_ := (hb.cell (World.block_lt_of_cell? _ _ (hHeld.2.2.1))).trans (hHeld.2.2.1)
                    have HS3_ := (hb.cell (World.block_lt_of_cell? _ _ (hHeld.2.2.2.1))).trans (hHeld.2.2.2.1)
                    have HS4_ := (hb.cell (World.block_lt_of_cell? _ _ (hHeld.2.2.2.2.1))).trans (hHeld.2.2.2.2.1)
                    have HS5_ := (hb.cell (World.block_lt_of_cell? _ _ (hHeld.2.2.2.2.2.1))).trans (hHeld.2.2.2.2.2.1)
                    have HS6_ := (hb.cell (World.block_lt_of_cell? _ _ (hHeld.2.2.2.2.2.2))).trans (hHeld.2.2.2.2.2.2)
                    have BK1089 := Aside0.mk (hbox)
                    have GW1089 := sA hg
                    have GE1089 := sA hg
                    have NB1059_1089 := nA hg BK1059
                    have NB1089_1059 := nB hg BK1059
                    replace HO_11 := Aside0.mk (Kd.R_below (rA HO_11) hb)
                    replace HO_13 := Aside0.mk (Kd.R_below (Kd.R_elderB (rA HO_13) gb1089 (Nat.le_of_eq hg.symm)) hb)
                    replace BK1059 := kB BK1059 hb
                    replace HB := lB hb
                    clear hb hbox hg
                    refine hK.out _ _ ⟨HS0_, HS1_, HS2_, HS3_, HS4_, HS5_, HS6_⟩ (fun hHeld => ?_)
                    clear hK K
                    refine norm_ (a' := ?_) ?_ ?_
                    rotate_left
                    ·
                     show Act.put _ (some 16) _ = _
                     simp only [pA]
                     rfl
                    exact norm_ (by simp only [putAll, Act.put, List.setIfInBounds_toArray, List.set_cons_zero, List.set_cons_succ]) (hCont (gb1089) _ ⟨hHeld, (rA HO_11), (rA HO_13), (bkA BK1059), (bkA BK1089), GW1089.out, GE1089.out, NB1059_1089.out, NB1089_1059.out, blA⟩)
                   ·
                    skip
                    refine box_step ?hg (N := 16) ?hd (cs := #[.int .i64 0, .int .i64 0, .int .i64 0]) (t := 39) ?hr ?_; (case hd => rfl); (case hg => rfl); (case hr => first | (go_simp; done) | (go_simp; rfl))
                    intro gb1089 hg w100 hbox hb
                    have HS0_ := (hb.cell (World.block_lt_of_cell? _ _ (hHeld.1))).trans (hHeld.1)
                    have HS1_ := (hb.cell (World.block_lt_of_cell? _ _ (hHeld.2.1))).trans (hHeld.2.1)
                    have HS2_ := (hb.cell (World.block_lt_of_cell? _ _ (hHeld.2.2.1))).trans (hHeld.2.2.1)
                    have HS3_ := (hb.cell (World.block_lt_of_cell? _ _ (hHeld.2.2.2.1))).trans (hHeld.2.2.2.1)
                    have HS4_ := (hb.cell (World.block_lt_of_cell? _ _ (hHeld.2.2.2.2.1))).trans (hHeld.2.2.2.2.1)
                    have HS5_ := (hb.cell (World.block_lt_of_cell? _ _ (hHeld.2.2.2.2.2.1))).trans (hHeld.2.2.2.2.2.1)
                    have HS6_ := (hb.cell (World.block_lt_of_cell? _ _ (hHeld.2.2.2.2.2.2))).trans (hHeld.2.2.2.2.2.2)
                    have BK1089 := Aside0.mk (hbox)
                    have GW1089 := sA hg
                    have GE1089 := sA hg
                    have NB1059_1089 := nA hg BK1059
                    have NB1089_1059 := nB hg BK1059
                    replace HO_11 := Aside0.mk (Kd.R_below (rA HO_11) hb)
                    replace HO_13 := Aside0.mk (Kd.R_below (Kd.R_elderB (rA HO_13) gb1089 (Nat.le_of_eq hg.symm)) hb)
                    replace BK1059 := kB BK1059 hb
                    replace HB := lB hb
                    clear hb hbox hg
                    refine hK.out _ _ ⟨HS0_, HS1_, HS2_, HS3_, HS4_, HS5_, HS6_⟩ (fun hHeld => ?_)
                    clear hK K
                    refine norm_ (a' := ?_) ?_ ?_
                    rotate_left
                    ·
                     show Act.put _ (some 16) _ = _
                     simp only [pA]
                     rfl
                    refine one_ (i := 9) (N := some 77) #[Y, Y, Y, Y, Y, Y, Y, Y, Y, Y, Z, Z, Z, Y, Z, Z] rfl rfl (one_of HT_.out (by kernel_rfl)) (by decide) (fun K hK => ?_)
                    refine goes_ Try.func62 (by kernel_rfl) rfl #[.int .i64 a0, .agg #[.int .i64 ((rd_T26 x11_1 x15_3).f0.f0), .int .i64 ((rd_T26 x11_1 x15_3).f0.f1), .int .i64 ((rd_T26 x11_1 x15_3).f1.f0), .int .i64 ((rd_T26 x11_1 x15_3).f1.f1)], .agg #[.int .i64 ((rd_T39 x13_3 x14_2).f0), .int .i64 ((rd_T39 x13_3 x14_2).f1), .int .i64 ((rd_T39 x13_3 x14_2).f2)]] (by rfl) rfl rfl hA ?_
                    with_reducible refine (spec_l04Move.calls k3 a0 ((rd_T26 x11_1 x15_3).f0.f0) ((rd_T26 x11_1 x15_3).f0.f1) ((rd_T26 x11_1 x15_3).f1.f0) ((rd_T26 x11_1 x15_3).f1.f1) ((rd_T39 x13_3 x14_2).f0) ((rd_T39 x13_3 x14_2).f1) ((rd_T39 x13_3 x14_2).f2) t1085 t1086 t1087 false _ A48.out).mono ?_
                    rintro e w101 ⟨rfl, hb⟩
                    have HS0_ := (hb.cell (World.block_lt_of_cell? _ _ (hHeld.1))).trans (hHeld.1)
                    have HS1_ := (hb.cell (World.block_lt_of_cell? _ _ (hHeld.2.1))).trans (hHeld.2.1)
                    have HS2_ := (hb.cell (World.block_lt_of_cell? _ _ (hHeld.2.2.1))).trans (hHeld.2.2.1)
                    have HS3_ := (hb.cell (World.block_lt_of_cell? _ _ (hHeld.2.2.2.1))).trans (hHeld.2.2.2.1)
                    have HS4_ := (hb.cell (World.block_lt_of_cell? _ _ (hHeld.2.2.2.2.1))).trans (hHeld.2.2.2.2.1)
                    have HS5_ := (hb.cell (World.block_lt_of_cell? _ _ (hHeld.2.2.2.2.2.1))).trans (hHeld.2.2.2.2.2.1)
                    have HS6_ := (hb.cell (World.block_lt_of_cell? _ _ (hHeld.2.2.2.2.2.2))).trans (hHeld.2.2.2.2.2.2)
                    refine ⟨_, rfl, ?_⟩
                    replace HO_11 := Aside0.mk (Kd.R_below (rA HO_11) hb)
                    replace HO_13 := Aside0.mk (Kd.R_below (rA HO_13) hb)
                    replace BK1059 := kB BK1059 hb
                    replace BK1089 := kB BK1089 hb
                    replace HB := lB hb
                    (try clear hb)
                    (try clear hb2)
                    (try clear hk)
                    (try clear hi)
                    refine hK.out _ _ ⟨HS0_, HS1_, HS2_, HS3_, HS4_, HS5_, HS6_⟩ (fun hHeld => ?_)
                    clear hK K
                    refine norm_ (a' := ?_) ?_ ?_
                    rotate_left
                    ·
                     show Act.put _ (some 77) _ = _
                     simp only [pA]
                     rfl
                    refine puA (i := 10) (N := some 67) #[Y, Y, Y, Y, Y, Y, Y, Y, Y, Y, Y, Z, Z, Y, Z, Z] rfl rfl HT_ ?_
                    refine puA (i := 11) (N := some 78) #[Y, Y, Y, Y, Y, Y, Y, Y, Y, Y, Y, Y, Z, Y, Z, Z] rfl rfl HT_ ?_
                    refine puA (i := 12) (N := some 79) #[Y, Y, Y, Y, Y, Y, Y, Y, Y, Y, Y, Y, Y, Y, Z, Z] rfl rfl HT_ ?_
                    exact norm_ (by simp only [putAll, Act.put, List.setIfInBounds_toArray, List.set_cons_zero, List.set_cons_succ]) (hCont (gb1089) _ ⟨hHeld, (rA HO_11), (rA HO_13), (bkA BK1059), (bkA BK1089), GW1089.out, GE1089.out, NB1059_1089.out, NB1089_1059.out, blA⟩)
                  rintro gb1089 w102 ⟨hS_, h0_, h1_, h2_, h3_, h4_, h5_, h6_, h7_, h8_⟩
                  have BK1089 := Aside0.mk h3_
                  have GW1089 := Aside0.mk h4_
                  have GE1089 := Aside0.mk h5_
                  have NB1059_1089 := Aside0.mk h6_
                  have NB1089_1059 := Aside0.mk h7_
                  replace HO_11 := Aside0.mk h0_
                  replace HO_13 := Aside0.mk h1_
                  replace BK1059 := Aside0.mk h2_
                  replace HB := Aside0.mk h8_
                  clear h0_ h1_ h2_ h3_ h4_ h5_ h6_ h7_ h8_
                  have hHeld : w102.cell? (ad1083.add ((x15_3).toNat * 4)) = some (.int .i64 ((rd_T26 x11_1 x15_3).f0.f0)) ∧ w102.cell? ⟨(ad1083.add ((x15_3).toNat * 4)).block, (ad1083.add ((x15_3).toNat * 4)).off + 1, none⟩ = some (.int .i64 ((rd_T26 x11_1 x15_3).f0.f1)) ∧ w102.cell? ⟨(ad1083.add ((x15_3).toNat * 4)).block, (ad1083.add ((x15_3).toNat * 4)).off + 2, none⟩ = some (.int .i64 ((rd_T26 x11_1 x15_3).f1.f0)) ∧ w102.cell? ⟨(ad1083.add ((x15_3).toNat * 4)).block, (ad1083.add ((x15_3).toNat * 4)).off + 3, none⟩ = some (.int .i64 ((rd_T26 x11_1 x15_3).f1.f1)) ∧ w102.cell? (ad1084.add ((x14_2).toNat * 3)) = some (.int .i64 ((rd_T39 x13_3 x14_2).f0)) ∧ w102.cell? ⟨(ad1084.add ((x14_2).toNat * 3)).block, (ad1084.add ((x14_2).toNat * 3)).off + 1, none⟩ = some (.int .i64 ((rd_T39 x13_3 x14_2).f1)) ∧ w102.cell? ⟨(ad1084.add ((x14_2).toNat * 3)).block, (ad1084.add ((x14_2).toNat * 3)).off + 2, none⟩ = some (.int .i64 ((rd_T39 x13_3 x14_2).f2)) := hS_
                  refine norm_ (a' := ?_) ?_ ?_
                  rotate_left
                  ·
                   simp only [putAll, Act.put, List.setIfInBounds_toArray, List.set_cons_zero, List.set_cons_succ]
                   rfl
                  refine one_ (i := 14) (N := none) #[Y, Y, Y, Y, Y, Y, Y, Y, Y, Y, Y, Y, Y, Y, Y, Z] rfl rfl (one_of HT_.out (by kernel_rfl)) (by decide) (fun K hK => ?_)
                  have hs103 : w102.cell? ⟨gb1089, 0, none⟩ = some (.int .i64 0) := cA BK1089 0
                  have hfs103 := blk_frozen BK1089.out 0
                  have hns103_0 := NB1059_1089.out
                  have hms103_0 := NB1089_1059.out
                  have hs104 : w102.cell? ⟨gb1089, 1, none⟩ = some (.int .i64 0) := cA BK1089 1
                  have hfs104 := blk_frozen BK1089.out 1
                  have hns104_0 := NB1059_1089.out
                  have hms104_0 := NB1089_1059.out
                  have hs105 : w102.cell? ⟨gb1089, 2, none⟩ = some (.int .i64 0) := cA BK1089 2
                  have hfs105 := blk_frozen BK1089.out 2
                  have hns105_0 := NB1059_1089.out
                  have hms105_0 := NB1089_1059.out
                  refine skip_ (w1 := ?_) (by rfl) rfl ?_ ?_
                  rotate_left
                  ·
                   go_simp
                   rfl
                  refine hK.out _ _ ⟨((cell_far (p := ⟨gb1089, _, none⟩) (fB (Kd.own_blk (Kd.R_ne HO_11.out BK1089.out (by decide)))) _).trans (((cell_far (p := ⟨gb1089, _, none⟩) (fB (Kd.own_blk (Kd.R_ne HO_11.out BK1089.out (by decide)))) _).trans (((cell_far (p := ⟨gb1089, _, none⟩) (fB (Kd.own_blk (Kd.R_ne HO_11.out BK1089.out (by decide)))) _).trans (hHeld.1)))))), ((cell_far (p := ⟨gb1089, _, none⟩) (fB (Kd.own_blk (Kd.R_ne HO_11.out BK1089.out (by decide)))) _).trans (((cell_far (p := ⟨gb1089, _, none⟩) (fB (Kd.own_blk (Kd.R_ne HO_11.out BK1089.out (by decide)))) _).trans (((cell_far (p := ⟨gb1089, _, none⟩) (fB (Kd.own_blk (Kd.R_ne HO_11.out BK1089.out (by decide)))) _).trans (hHeld.2.1)))))), ((cell_far (p := ⟨gb1089, _, none⟩) (fB (Kd.own_blk (Kd.R_ne HO_11.out BK1089.out (by decide)))) _).trans (((cell_far (p := ⟨gb1089, _, none⟩) (fB (Kd.own_blk (Kd.R_ne HO_11.out BK1089.out (by decide)))) _).trans (((cell_far (p := ⟨gb1089, _, none⟩) (fB (Kd.own_blk (Kd.R_ne HO_11.out BK1089.out (by decide)))) _).trans (hHeld.2.2.1)))))), ((cell_far (p := ⟨gb1089, _, none⟩) (fB (Kd.own_blk (Kd.R_ne HO_11.out BK1089.out (by decide)))) _).trans (((cell_far (p := ⟨gb1089, _, none⟩) (fB (Kd.own_blk (Kd.R_ne HO_11.out BK1089.out (by decide)))) _).trans (((cell_far (p := ⟨gb1089, _, none⟩) (fB (Kd.own_blk (Kd.R_ne HO_11.out BK1089.out (by decide)))) _).trans (hHeld.2.2.2.1)))))), ((cell_far (p := ⟨gb1089, _, none⟩) (fB (Kd.own_blk (Kd.R_away HO_13.out (fun _ hk => hk.2)))) _).trans (((cell_far (p := ⟨gb1089, _, none⟩) (fB (Kd.own_blk (Kd.R_away HO_13.out (fun _ hk => hk.2)))) _).trans (((cell_far (p := ⟨gb1089, _, none⟩) (fB (Kd.own_blk (Kd.R_away HO_13.out (fun _ hk => hk.2)))) _).trans (hHeld.2.2.2.2.1)))))), ((cell_far (p := ⟨gb1089, _, none⟩) (fB (Kd.own_blk (Kd.R_away HO_13.out (fun _ hk => hk.2)))) _).trans (((cell_far (p := ⟨gb1089, _, none⟩) (fB (Kd.own_blk (Kd.R_away HO_13.out (fun _ hk => hk.2)))) _).trans (((cell_far (p := ⟨gb1089, _, none⟩) (fB (Kd.own_blk (Kd.R_away HO_13.out (fun _ hk => hk.2)))) _).trans (hHeld.2.2.2.2.2.1)))))), ((cell_far (p := ⟨gb1089, _, none⟩) (fB (Kd.own_blk (Kd.R_away HO_13.out (fun _ hk => hk.2)))) _).trans (((cell_far (p := ⟨gb1089, _, none⟩) (fB (Kd.own_blk (Kd.R_away HO_13.out (fun _ hk => hk.2)))) _).trans (((cell_far (p := ⟨gb1089, _, none⟩) (fB (Kd.own_blk (Kd.R_away HO_13.out (fun _ hk => hk.2)))) _).trans (hHeld.2.2.2.2.2.2))))))⟩ (fun hHeld => ?_)
                  clear hK K
                  refine puA (i := 15) (N := some 17) #[Y, Y, Y, Y, Y, Y, Y, Y, Y, Y, Y, Y, Y, Y, Y, Y] rfl rfl HT_ ?_
                  refine done_ (done_of HT_.out (by kernel_rfl)) ?_
                  try go_wp2
                  go_roundg k3
                  case measure => have := HK1.out; have := HK2.out; have := HK3.out; omega
                  case rel => exact ⟨(x13_3), (wrap64 (x15_3 + 1)), hB, H', ⟨by have := HK1.out; have := HK2.out; have := HK3.out; omega⟩, ⟨by (with_reducible repeat (first | apply Kd.R_alloc | apply Kd.R_drewN | apply Kd.R_drew)); exact Kd.R_mono (Kd.R_far (p := ⟨gb1089, 2, none⟩) (Kd.R_far (p := ⟨gb1089, 1, none⟩) (Kd.R_far (p := ⟨gb1089, 0, none⟩) (Kd.R_types HO_11.out BK1089.out (by decide)) (fun _ hk => hk.2) (.int .i64 t1085)) (fun _ hk => hk.2) (.int .i64 t1086)) (fun _ hk => hk.2) (.int .i64 t1087)) (fun _ hk => trivial)⟩, ⟨by (with_reducible repeat (first | apply Kd.R_alloc | apply Kd.R_drewN | apply Kd.R_drew)); exact Kd.R_mono (Kd.R_far (p := ⟨gb1089, 2, none⟩) (Kd.R_far (p := ⟨gb1089, 1, none⟩) (Kd.R_far (p := ⟨gb1089, 0, none⟩) (Kd.R_mono HO_13.out (fun k_ hk => (⟨hk, hk.2⟩ : _ ∧ k_ ≠ gb1089))) (fun _ hk => hk.2) (.int .i64 t1085)) (fun _ hk => hk.2) (.int .i64 t1086)) (fun _ hk => hk.2) (.int .i64 t1087)) (fun _ hk => hk.1.1)⟩, ⟨bkF BK1059⟩, ⟨blA⟩⟩
                ·
                 rw [if_neg c47] at H
                 exact absurd H (by simp)
               ·
                rw [if_neg c46] at H
                exact absurd H (by simp)
              ·
               rw [if_neg c45] at H
               exact absurd H (by simp)
             ·
              rw [if_neg c44] at H
              have c44b0 := decide_eq_false c44
              clear c44
              have H' := Aside0.mk H
              clear H
              obtain ⟨Ao106, co106, eo106⟩ := Kd.R_slice HO_11.out
              subst eo106
              go_wp2
              go_roundg k3
              case measure => have := HK1.out; have := HK2.out; have := HK3.out; omega
              case rel => exact ⟨(x13_3), (wrap64 (x14_2 + 1)), hB, H', ⟨by have := HK1.out; have := HK2.out; have := HK3.out; omega⟩, ⟨rA HO_11⟩, ⟨rA HO_13⟩, ⟨bkA BK1059⟩, ⟨blA⟩⟩
          ·
           rw [if_neg c42] at H
           have c42b0 := decide_eq_false c42
           clear c42
           simp only [Option.some.injEq, Prod.mk.injEq] at H
           obtain ⟨rfl, rfl⟩ := H
           obtain ⟨Ao107, co107, eo107⟩ := Kd.R_slice HO_13.out
           subst eo107
           go_wp2
           go_ret2
           exact ⟨_, by first | rfl | (simp [errW_none, errW_some] <;> rfl) | (simp [*, errW_none, errW_some] <;> rfl), by (with_reducible repeat (first | apply Kd.R_alloc | apply Kd.R_drewN | apply Kd.R_drew)); exact Kd.R_mono HO_13.out (fun _ hk => trivial), blA⟩
    ·
     rw [if_neg c20] at H
     exact absurd H (by simp)
  ·
   rw [if_neg c8] at H
   have c8b0 : (t1064 == 0) = false := beq_eq_false_iff_ne.mpr c8
   have c8b1 : (t1064 != 0) = true := bne_iff_ne.mpr c8
   simp only [Option.some.injEq, Prod.mk.injEq] at H
   obtain ⟨rfl, rfl⟩ := H
   go_enter Try.func40, Try.ntmps40
   go_wp2_with (first | ((with_reducible refine gate_dst (N := 6) rfl ?_); refine box_event ?hg (N := 6) ?hd (cs := #[.int .i64 a2_0, .int .i64 a2_1, .int .i64 a2_2]) (t := 39) ?hr ?_; (case hd => rfl); (case hg => rfl); (case hr => first | (go_simp; done) | (go_simp; rfl)); intro gb1059 hg w108 hbox hb; have n0_ := lB hb; have n1_ := Aside0.mk (hbox); have n2_ := sA hg; have n3_ := sA hg; clear HB; have HB := n0_; have BK1059 := n1_; have GW1059 := n2_; have GE1059 := n3_; clear n0_ n1_ n2_ n3_; clear hb hbox hg; obtain ⟨hcz109_0, hcz109_1, hcz109_2, hfz109_0, hfz109_1, hfz109_2⟩ := cz3 BK1059) | ((with_reducible refine gate_dst (N := 20) rfl ?_); refine Kd.R_lit k39 _ 39 ?hg (N := 20) ?hd (xs := ([(⟨a2_0, a2_1, a2_2⟩ : S39)] : List (S39))) (inner := [.int .i64 a2_0, .int .i64 a2_1, .int .i64 a2_2]) (ok := fun _ => True) (okp := fun _ => True) ?hr ?hp (fun _ hk => hk) trivial (Below.refl _ _) (Nat.le_refl _) (by simp) ?_; (case hd => rfl); (case hg => rfl); (case hr => first | (go_simp; done) | (go_simp; rfl)); (case hp => exact (Reps.c3 (show Kd.M k39 _ _ _ (⟨a2_0, a2_1, a2_2⟩ : S39) [.int .i64 a2_0, .int .i64 a2_1, .int .i64 a2_2] from (k39_mkM _ _ _ (⟨a2_0, a2_1, a2_2⟩ : S39) )) (Reps.none _ _))); intro v1061 w110 ho111 hb hg_ hnew_; clear hg_ hnew_; (first | rw [← Ny1060.out] at ho111 | (simp only [Int.reduceToNat] at ho111; rw [← Ny1060.out] at ho111)); have n0_ := Aside0.mk (Kd.R_lower (Kd.R_newB ho111 (bkA BK1059)) (below_size blA)); have n1_ := kB BK1059 hb; have n2_ := lB hb; clear BK1059; clear HB; have HO1062 := n0_; have BK1059 := n1_; have HB := n2_; clear n0_ n1_ n2_; clear hb ho111; obtain ⟨Ao112, co112, eo112⟩ := Kd.R_slice HO1062.out; subst eo112) | ((with_reducible refine gate_callee (f := 100) rfl ?_); refine goesL_ (some 21) rfl rfl Try.func100 (by kernel_rfl) rfl #[.int .i64 a0, .slice Ao112 y1060.length co112] rfl hA ?_; (with_reducible refine (spec_l01Code.calls k a0 _ _ y1060 t1063 _ ?side1 ?side2 A5.out).mono ?_); (case side1 => repeat (first | exact (Kd.R_reads' HO1062.out).2.2 | (with_reducible refine Kd.C_alloc ?_ _) | (with_reducible refine Kd.C_drewN ?_ _) | (with_reducible refine Kd.C_drew ?_))); (case side2 => exact (Kd.R_reads' HO1062.out).2.1); rintro e w113 ⟨rfl, hb⟩; refine ⟨_, rfl, ?_⟩; have n0_ := Aside0.mk (Kd.R_below (rA HO1062) hb); have n1_ := kB BK1059 hb; have n2_ := lB hb; clear HO1062; clear BK1059; clear HB; have HO1062 := n0_; have BK1059 := n1_; have HB := n2_; clear n0_ n1_ n2_; (try clear hb); (try clear hb2); (try clear hk); (try clear hi)) | ((with_reducible refine gate_callee (f := 101) rfl ?_); refine goesL_ (some 26) rfl rfl Try.func101 (by kernel_rfl) rfl #[.int .i64 a0, .slice A1 l1.length c1, .int .i64 a3] rfl hA ?_; (with_reducible refine (spec_l06Code.calls k a0 _ _ l1 a3 t1064 _ ?side1 ?side2 A7.out).mono ?_); (case side1 => repeat (first | exact (Kd.C_below HR1.out HB.out) | (with_reducible refine Kd.C_alloc ?_ _) | (with_reducible refine Kd.C_drewN ?_ _) | (with_reducible refine Kd.C_drew ?_))); (case side2 => exact HC1.out); rintro e w114 ⟨rfl, hb⟩; refine ⟨_, rfl, ?_⟩; have n0_ := Aside0.mk (Kd.R_below (rA HO1062) hb); have n1_ := kB BK1059 hb; have n2_ := lB hb; clear HO1062; clear BK1059; clear HB; have HO1062 := n0_; have BK1059 := n1_; have HB := n2_; clear n0_ n1_ n2_; (try clear hb); (try clear hb2); (try clear hk); (try clear hi)))
   go_ret2
   exact ⟨_, by first | rfl | (simp [errW_none, errW_some] <;> rfl) | (simp [*, errW_none, errW_some] <;> rfl), by first | exact Kd.R_nil _ _ _ _ _ | exact Kd.N_nil _ _ _ _ _ | exact Kd.V_nil _ _ _ _ _ | exact Kd.Q_nil _ _ _ _ _ | exact Kd.S_nil _ _ _ _ _, blA⟩
 ·
  rw [if_neg c6] at H
  have c6b0 : (t1063 == 0) = false := beq_eq_false_iff_ne.mpr c6
  have c6b1 : (t1063 != 0) = true := bne_iff_ne.mpr c6
  simp only [Option.some.injEq, Prod.mk.injEq] at H
  obtain ⟨rfl, rfl⟩ := H
  go_enter Try.func40, Try.ntmps40
  go_wp2_with (first | ((with_reducible refine gate_dst (N := 6) rfl ?_); refine box_event ?hg (N := 6) ?hd (cs := #[.int .i64 a2_0, .int .i64 a2_1, .int .i64 a2_2]) (t := 39) ?hr ?_; (case hd => rfl); (case hg => rfl); (case hr => first | (go_simp; done) | (go_simp; rfl)); intro gb1059 hg w115 hbox hb; have n0_ := lB hb; have n1_ := Aside0.mk (hbox); have n2_ := sA hg; have n3_ := sA hg; clear HB; have HB := n0_; have BK1059 := n1_; have GW1059 := n2_; have GE1059 := n3_; clear n0_ n1_ n2_ n3_; clear hb hbox hg; obtain ⟨hcz116_0, hcz116_1, hcz116_2, hfz116_0, hfz116_1, hfz116_2⟩ := cz3 BK1059) | ((with_reducible refine gate_dst (N := 20) rfl ?_); refine Kd.R_lit k39 _ 39 ?hg (N := 20) ?hd (xs := ([(⟨a2_0, a2_1, a2_2⟩ : S39)] : List (S39))) (inner := [.int .i64 a2_0, .int .i64 a2_1, .int .i64 a2_2]) (ok := fun _ => True) (okp := fun _ => True) ?hr ?hp (fun _ hk => hk) trivial (Below.refl _ _) (Nat.le_refl _) (by simp) ?_; (case hd => rfl); (case hg => rfl); (case hr => first | (go_simp; done) | (go_simp; rfl)); (case hp => exact (Reps.c3 (show Kd.M k39 _ _ _ (⟨a2_0, a2_1, a2_2⟩ : S39) [.int .i64 a2_0, .int .i64 a2_1, .int .i64 a2_2] from (k39_mkM _ _ _ (⟨a2_0, a2_1, a2_2⟩ : S39) )) (Reps.none _ _))); intro v1061 w117 ho118 hb hg_ hnew_; clear hg_ hnew_; (first | rw [← Ny1060.out] at ho118 | (simp only [Int.reduceToNat] at ho118; rw [← Ny1060.out] at ho118)); have n0_ := Aside0.mk (Kd.R_lower (Kd.R_newB ho118 (bkA BK1059)) (below_size blA)); have n1_ := kB BK1059 hb; have n2_ := lB hb; clear BK1059; clear HB; have HO1062 := n0_; have BK1059 := n1_; have HB := n2_; clear n0_ n1_ n2_; clear hb ho118; obtain ⟨Ao119, co119, eo119⟩ := Kd.R_slice HO1062.out; subst eo119) | ((with_reducible refine gate_callee (f := 100) rfl ?_); refine goesL_ (some 21) rfl rfl Try.func100 (by kernel_rfl) rfl #[.int .i64 a0, .slice Ao119 y1060.length co119] rfl hA ?_; (with_reducible refine (spec_l01Code.calls k a0 _ _ y1060 t1063 _ ?side1 ?side2 A5.out).mono ?_); (case side1 => repeat (first | exact (Kd.R_reads' HO1062.out).2.2 | (with_reducible refine Kd.C_alloc ?_ _) | (with_reducible refine Kd.C_drewN ?_ _) | (with_reducible refine Kd.C_drew ?_))); (case side2 => exact (Kd.R_reads' HO1062.out).2.1); rintro e w120 ⟨rfl, hb⟩; refine ⟨_, rfl, ?_⟩; have n0_ := Aside0.mk (Kd.R_below (rA HO1062) hb); have n1_ := kB BK1059 hb; have n2_ := lB hb; clear HO1062; clear BK1059; clear HB; have HO1062 := n0_; have BK1059 := n1_; have HB := n2_; clear n0_ n1_ n2_; (try clear hb); (try clear hb2); (try clear hk); (try clear hi)))
  go_ret2
  exact ⟨_, by first | rfl | (simp [errW_none, errW_some] <;> rfl) | (simp [*, errW_none, errW_some] <;> rfl), by first | exact Kd.R_nil _ _ _ _ _ | exact Kd.N_nil _ _ _ _ _ | exact Kd.V_nil _ _ _ _ _ | exact Kd.Q_nil _ _ _ _ _ | exact Kd.S_nil _ _ _ _ _, blA⟩
end Go.Proofs.Ytccpccnnbacgjaa.PAll
