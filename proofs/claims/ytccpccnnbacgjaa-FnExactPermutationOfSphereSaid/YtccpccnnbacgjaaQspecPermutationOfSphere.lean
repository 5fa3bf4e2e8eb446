-- turned for this claim out of the kit's print: the same functions, packed anew
import Derived.Test.YtccpccnnbacgjaaQx
import Derived.Test.YtccpccnnbacgjaaQimplBall69
import Derived.Test.YtccpccnnbacgjaaQspecSphereAround
import Derived.Test.YtccpccnnbacgjaaQspecl04Move
import Derived.Test.YtccpccnnbacgjaaQspecl06Sphere
namespace Go.Proofs.Ytccpccnnbacgjaa.PAll
open Go.RowKit Go.Proofs.YtccpccnnbacgjaaW.PrintWords Go.Proofs.YtccpccnnbacgjaaW.PrintLast Go.Proofs.YtccpccnnbacgjaaW.PrintMore
attribute [local go_sem] Go.Proofs.Ytccpccnnbacgjaa.Aux.setCell_drewN Go.Proofs.Ytccpccnnbacgjaa.Aux.isSome_setCell max2_int min2_int max_two min_two max_three min_three max_four min_four   -- for this text's walks alone
set_option linter.unusedVariables false
set_option linter.unusedSimpArgs false
attribute [local go_sem high] eqA39
/-! ### spec_PermutationOfSphere: function 14 -/
mutual
def spec_PermutationOfSphere.j0 : Nat → Int → Int → Bool → Int → Int → Int → Int → Option (List Int × Int)
 | 0, _, _, _, _, _, _, _ => none
 | k + 1, x0, x2, x37, x413000, x413001, x413002, x413003 => if x37 = true then (some (([] : List Int), 5)) else ((spec_SphereAround.f k x0 0 0 0 x2).bind fun bt419 => (spec_PermutationOfSphere.l0 k x0 bt419.1 (([] : List Int)) 0 x413000 x413001 x413002 x413003))
def spec_PermutationOfSphere.l0 : Nat → Int → List (S39) → List Int → Int → Int → Int → Int → Int → Option (List Int × Int)
 | 0, _, _, _, _, _, _, _, _ => none
 | k + 1, x0, x11, x13, x14, x413000, x413001, x413002, x413003 => if x14 < (x11.length : Int) then (if 0 ≤ x14 then ((spec_l04Move.f k x0 x413000 x413001 x413002 x413003 ((rd_T39 x11 x14).f0) ((rd_T39 x11 x14).f1) ((rd_T39 x11 x14).f2)).bind fun bt427 => ((spec_l06Find.f k x11 bt427.1 bt427.2.1 bt427.2.2.1).bind fun t432 => (if x13.length < 17592186044416 then (spec_PermutationOfSphere.l0 k x0 x11 (x13 ++ [t432]) (wrap64 (x14 + 1)) x413000 x413001 x413002 x413003) else (none)))) else (none)) else (some (x13, 0))
end
def spec_PermutationOfSphere.f (k : Nat) (a0 : Int) (a1_0 : Int) (a1_1 : Int) (a1_2 : Int) (a1_3 : Int) (a2 : Int) : Option (List Int × Int) := (spec_l06Sphere.f k a0 a1_0 a1_1 a1_2 a1_3 a2).bind fun t413 => (if t413 = 0 then ((spec_l04Move.f k a0 a1_0 a1_1 a1_2 a1_3 0 0 0).bind fun bt414 => (if bt414.2.2.2 = true then (spec_PermutationOfSphere.j0 k a0 a2 (!(bt414.1 == 0) || (!(bt414.2.1 == 0) || (!(bt414.2.2.1 == 0)))) a1_0 a1_1 a1_2 a1_3) else (spec_PermutationOfSphere.j0 k a0 a2 true a1_0 a1_1 a1_2 a1_3))) else (some (([] : List Int), t413)))
theorem spec_PermutationOfSphere.mono_l : ∀ k, (∀ y0 y1 y2 y3 y4 y5 y6, LeO (spec_PermutationOfSphere.j0 k y0 y1 y2 y3 y4 y5 y6) (spec_PermutationOfSphere.j0 (k + 1) y0 y1 y2 y3 y4 y5 y6)) ∧ (∀ y0 y1 y2 y3 y4 y5 y6 y7, LeO (spec_PermutationOfSphere.l0 k y0 y1 y2 y3 y4 y5 y6 y7) (spec_PermutationOfSphere.l0 (k + 1) y0 y1 y2 y3 y4 y5 y6 y7))
 | 0 => ⟨fun _ _ _ _ _ _ _ r h => by simp [spec_PermutationOfSphere.j0] at h, fun _ _ _ _ _ _ _ _ r h => by simp [spec_PermutationOfSphere.l0] at h⟩
 | k + 1 => by
  obtain ⟨ih0, ih1⟩ := spec_PermutationOfSphere.mono_l k
  refine ⟨?_, ?_⟩
  ·
   intro y0 y1 y2 y3 y4 y5 y6
   unfold spec_PermutationOfSphere.j0
   repeat' first
   | (with_reducible exact ih0 _ _ _ _ _ _ _)
   | (with_reducible exact ih1 _ _ _ _ _ _ _ _)
   | (with_reducible exact spec_SphereAround.mono _ _ _ _ _ _)
   | (with_reducible exact spec_l04Move.mono _ _ _ _ _ _ _ _ _)
   | (with_reducible exact spec_l06Find.mono _ _ _ _ _)
   | (with_reducible exact spec_l06Sphere.mono _ _ _ _ _ _ _)
   | (with_reducible exact LeO.refl _)
   | (with_reducible exact LeO.none _)
   | (with_reducible refine LeO.ite ?_ ?_)
   | (with_reducible refine LeO.bind ?_ (fun _ => ?_))
   | exact ih0 _ _ _ _ _ _ _
   | exact ih1 _ _ _ _ _ _ _ _
   | exact spec_SphereAround.mono _ _ _ _ _ _
   | exact spec_l04Move.mono _ _ _ _ _ _ _ _ _
   | exact spec_l06Find.mono _ _ _ _ _
   | exact spec_l06Sphere.mono _ _ _ _ _ _ _
   | exact LeO.none _
   | refine LeO.ite ?_ ?_
   | refine LeO.bind ?_ (fun _ => ?_)
  ·
   intro y0 y1 y2 y3 y4 y5 y6 y7
   unfold spec_PermutationOfSphere.l0
   repeat' first
   | (with_reducible exact ih0 _ _ _ _ _ _ _)
   | (with_reducible exact ih1 _ _ _ _ _ _ _ _)
   | (with_reducible exact spec_SphereAround.mono _ _ _ _ _ _)
   | (with_reducible exact spec_l04Move.mono _ _ _ _ _ _ _ _ _)
   | (with_reducible exact spec_l06Find.mono _ _ _ _ _)
   | (with_reducible exact spec_l06Sphere.mono _ _ _ _ _ _ _)
   | (with_reducible exact LeO.refl _)
   | (with_reducible exact LeO.none _)
   | (with_reducible refine LeO.ite ?_ ?_)
   | (with_reducible refine LeO.bind ?_ (fun _ => ?_))
   | exact ih0 _ _ _ _ _ _ _
   | exact ih1 _ _ _ _ _ _ _ _
   | exact spec_SphereAround.mono _ _ _ _ _ _
   | exact spec_l04Move.mono _ _ _ _ _ _ _ _ _
   | exact spec_l06Find.mono _ _ _ _ _
   | exact spec_l06Sphere.mono _ _ _ _ _ _ _
   | exact LeO.none _
   | refine LeO.ite ?_ ?_
   | refine LeO.bind ?_ (fun _ => ?_)
theorem spec_PermutationOfSphere.mono : ∀ a0 a1 a2 a3 a4 a5 k, LeO (spec_PermutationOfSphere.f k a0 a1 a2 a3 a4 a5) (spec_PermutationOfSphere.f (k + 1) a0 a1 a2 a3 a4 a5) := by
 intro a0 a1 a2 a3 a4 a5 k
 obtain ⟨ih0, ih1⟩ := spec_PermutationOfSphere.mono_l k
 unfold spec_PermutationOfSphere.f
 repeat' first
   | (with_reducible exact ih0 _ _ _ _ _ _ _)
   | (with_reducible exact ih1 _ _ _ _ _ _ _ _)
   | (with_reducible exact spec_SphereAround.mono _ _ _ _ _ _)
   | (with_reducible exact spec_l04Move.mono _ _ _ _ _ _ _ _ _)
   | (with_reducible exact spec_l06Find.mono _ _ _ _ _)
   | (with_reducible exact spec_l06Sphere.mono _ _ _ _ _ _ _)
   | (with_reducible exact LeO.refl _)
   | (with_reducible exact LeO.none _)
   | (with_reducible refine LeO.ite ?_ ?_)
   | (with_reducible refine LeO.bind ?_ (fun _ => ?_))
   | exact ih0 _ _ _ _ _ _ _
   | exact ih1 _ _ _ _ _ _ _ _
   | exact spec_SphereAround.mono _ _ _ _ _ _
   | exact spec_l04Move.mono _ _ _ _ _ _ _ _ _
   | exact spec_l06Find.mono _ _ _ _ _
   | exact spec_l06Sphere.mono _ _ _ _ _ _ _
   | exact LeO.none _
   | refine LeO.ite ?_ ?_
   | refine LeO.bind ?_ (fun _ => ?_)
def spec_PermutationOfSphere.T12 : Bool × List (List Nat × List Nat) := (true, [([], []), ([], []), ([], []), ([], []), ([2, 3], [2, 3]), ([4], [4]), ([0, 1, 5], [0, 1, 5]), ([6], [6]), ([7], [7]), ([7], [7]), ([], []), ([10, 8, 6, 0, 1, 2, 3, 4, 5, 6, 7, 8, 10], [8, 10]), ([9, 11, 0, 1, 2, 3, 4, 5, 6, 7, 8, 9, 10, 11], [9])])
def spec_PermutationOfSphere.B12 : List Nat := [0, 0, 0, 0, 12, 28, 63, 127, 255, 255, 0, 1535, 4095]
theorem spec_PermutationOfSphere.tab12 : rtab .any (opsOf Try.f14 12) = spec_PermutationOfSphere.T12 := by kernel_rfl
theorem spec_PermutationOfSphere.bits12 : waitsOk spec_PermutationOfSphere.T12.2 spec_PermutationOfSphere.B12 = true := by kernel_rfl
set_option maxHeartbeats 8000000 in
set_option maxRecDepth 100000 in
theorem spec_PermutationOfSphere.calls (k : Nat) (a0 : Int) (a1_0 : Int) (a1_1 : Int) (a1_2 : Int) (a1_3 : Int) (a2 : Int) (r1 : List Int) (r2 : Int) (w : World) (h : spec_PermutationOfSphere.f k a0 a1_0 a1_1 a1_2 a1_3 a2 = some (r1, r2)) :
  Calls Try.prog 14 #[.int .i64 a0, .agg #[.int .i64 a1_0, .int .i64 a1_1, .int .i64 a1_2, .int .i64 a1_3], .int .i64 a2] w fun e w' => ∃ v0_ : Value, e = .returned (.tuple #[v0_, .int .i64 r2]) ∧ Kd.R (Kd.int .i64) 2 w' w.heap.size (fun _ => True) v0_ r1 ∧ Below w.heap.size w w' := by
 have hu26 := Try.underlying26
 have hu39 := Try.underlying39
 have HB := Aside0.mk (Below.refl w.heap.size w)
 have H := h
 unfold spec_PermutationOfSphere.f at H
 clear h
 replace H := bS H
 obtain ⟨t413, A4, H⟩ := H
 try dsimp only at H
 by_cases c5 : t413 = 0
 ·
  rw [if_pos c5] at H
  have c5b0 : (t413 == 0) = true := beq_iff_eq.mpr c5
  have c5b1 : (t413 != 0) = false := bne_eq_false_iff_eq.mpr c5
  clear c5
  replace H := bS H
  obtain ⟨⟨t414, t415, t416, t417⟩, A6, H⟩ := H
  try dsimp only at H
  have HC7 := Aside0.mk H
  clear H
  go_enter Try.func14, Try.ntmps14
  go_upto_region 5 with (first | ((with_reducible refine gate_dst (N := 4) rfl ?_); refine box_event ?hg (N := 4) ?hd (cs := #[.int .i64 a1_0, .int .i64 a1_1, .int .i64 a1_2, .int .i64 a1_3]) (t := 26) ?hr ?_; (case hd => rfl); (case hg => rfl); (case hr => first | (go_simp; done) | (go_simp; rfl)); intro gb412 hg w8 hbox hb; have n0_ := lB hb; have n1_ := Aside0.mk (hbox); have n2_ := sA hg; have n3_ := sA hg; clear HB; have HB := n0_; have BK412 := n1_; have GW412 := n2_; have GE412 := n3_; clear n0_ n1_ n2_ n3_; clear hb hbox hg; have hcz9_0 : w8.cell? ⟨gb412, 0, none⟩ = some (.int .i64 a1_0) := cA BK412 0; have hcz9_1 : w8.cell? ⟨gb412, 1, none⟩ = some (.int .i64 a1_1) := cA BK412 1; have hcz9_2 : w8.cell? ⟨gb412, 2, none⟩ = some (.int .i64 a1_2) := cA BK412 2; have hcz9_3 : w8.cell? ⟨gb412, 3, none⟩ = some (.int .i64 a1_3) := cA BK412 3; have hfz9_0 := blk_frozen BK412.out 0; have hfz9_1 := blk_frozen BK412.out 1; have hfz9_2 := blk_frozen BK412.out 2; have hfz9_3 := blk_frozen BK412.out 3) | ((with_reducible refine gate_callee (f := 60) rfl ?_); refine goesL_ (some 20) rfl rfl Try.func60 (by kernel_rfl) rfl #[.int .i64 a0, .agg #[.int .i64 a1_0, .int .i64 a1_1, .int .i64 a1_2, .int .i64 a1_3], .int .i64 a2] rfl hA ?_; (with_reducible refine (spec_l06Sphere.calls k a0 a1_0 a1_1 a1_2 a1_3 a2 t413 _ A4.out).mono ?_); rintro e w10 ⟨rfl, hb⟩; refine ⟨_, rfl, ?_⟩; have n0_ := kB BK412 hb; have n1_ := lB hb; clear BK412; clear HB; have BK412 := n0_; have HB := n1_; clear n0_ n1_; (try clear hb); (try clear hb2); (try clear hk); (try clear hi); have hcz11_0 : w10.cell? ⟨gb412, 0, none⟩ = some (.int .i64 a1_0) := cA BK412 0; have hcz11_1 : w10.cell? ⟨gb412, 1, none⟩ = some (.int .i64 a1_1) := cA BK412 1; have hcz11_2 : w10.cell? ⟨gb412, 2, none⟩ = some (.int .i64 a1_2) := cA BK412 2; have hcz11_3 : w10.cell? ⟨gb412, 3, none⟩ = some (.int .i64 a1_3) := cA BK412 3; have hfz11_0 := blk_frozen BK412.out 0; have hfz11_1 := blk_frozen BK412.out 1; have hfz11_2 := blk_frozen BK412.out 2; have hfz11_3 := blk_frozen BK412.out 3) | ((with_reducible refine gate_callee (f := 62) rfl ?_); refine goesL_ (some 28) rfl rfl Try.func62 (by kernel_rfl) rfl #[.int .i64 a0, .agg #[.int .i64 a1_0, .int .i64 a1_1, .int .i64 a1_2, .int .i64 a1_3], .agg #[.int .i64 0, .int .i64 0, .int .i64 0]] rfl hA ?_; (with_reducible refine (spec_l04Move.calls k a0 a1_0 a1_1 a1_2 a1_3 0 0 0 t414 t415 t416 t417 _ A6.out).mono ?_); rintro e w12 ⟨rfl, hb⟩; refine ⟨_, rfl, ?_⟩; have n0_ := kB BK412 hb; have n1_ := lB hb; clear BK412; clear HB; have BK412 := n0_; have HB := n1_; clear n0_ n1_; (try clear hb); (try clear hb2); (try clear hk); (try clear hi)) | ((with_reducible refine gate_dst (N := 9) rfl ?_); refine box_event ?hg (N := 9) ?hd (cs := #[.int .i64 0, .int .i64 0, .int .i64 0]) (t := 39) ?hr ?_; (case hd => rfl); (case hg => rfl); (case hr => first | (go_simp; done) | (go_simp; rfl)); intro gb418 hg w13 hbox hb; have n0_ := kB BK412 hb; have n1_ := lB hb; have n2_ := Aside0.mk (hbox); have n3_ := sA hg; have n4_ := sA hg; have n5_ := nA hg BK412; have n6_ := nB hg BK412; clear BK412; clear HB; have BK412 := n0_; have HB := n1_; have BK418 := n2_; have GW418 := n3_; have GE418 := n4_; have NB412_418 := n5_; have NB418_412 := n6_; clear n0_ n1_ n2_ n3_ n4_ n5_ n6_; clear hb hbox hg; have hnb14 := NB418_412.out; have hnc14 := NB412_418.out; have hcz15_0 : w13.cell? ⟨gb418, 0, none⟩ = some (.int .i64 0) := cA BK418 0; have hcz15_1 : w13.cell? ⟨gb418, 1, none⟩ = some (.int .i64 0) := cA BK418 1; have hcz15_2 : w13.cell? ⟨gb418, 2, none⟩ = some (.int .i64 0) := cA BK418 2; have hfz15_0 := blk_frozen BK418.out 0; have hfz15_1 := blk_frozen BK418.out 1; have hfz15_2 := blk_frozen BK418.out 2))
  (try simp only [Act.put, List.setIfInBounds_toArray, List.set_cons_zero, List.set_cons_succ])
  go_cut [37] (fun v37 wc => ∃ (kq : Nat) (x37_6 : Bool), v37 = .bool x37_6 ∧ Aside0 (spec_PermutationOfSphere.j0 kq a0 a2 x37_6 a1_0 a1_1 a1_2 a1_3 = some (r1, r2)) ∧ Aside0 (kq ≤ k) ∧ Aside0 (wc.heap[gb412]? = some (.cells #[.int .i64 a1_0, .int .i64 a1_1, .int .i64 a1_2, .int .i64 a1_3] 26 (0, 0))) ∧ Aside0 (wc.heap[gb418]? = some (.cells #[.int .i64 t414, .int .i64 t415, .int .i64 t416] 39 (0, 0))) ∧ Aside0 (Below w.heap.size w wc))
  case first =>
   have H := HC7.out
   clear HC7
   by_cases c16 : t417 = true
   ·
    subst c16
    rw [if_pos rfl] at H
    try dsimp only at H
    have H' := Aside0.mk H
    clear H
    have hnb17 := NB418_412.out
    have hnc17 := NB412_418.out
    have hcz18_0 : w13.cell? ⟨gb418, 0, none⟩ = some (.int .i64 0) := cA BK418 0
    have hcz18_1 : w13.cell? ⟨gb418, 1, none⟩ = some (.int .i64 0) := cA BK418 1
    have hcz18_2 : w13.cell? ⟨gb418, 2, none⟩ = some (.int .i64 0) := cA BK418 2
    have hfz18_0 := blk_frozen BK418.out 0
    have hfz18_1 := blk_frozen BK418.out 1
    have hfz18_2 := blk_frozen BK418.out 2
    go_wp2
    go_meet
    case rel => exact ⟨_, ((!(t414 == 0) || (!(t415 == 0) || (!(t416 == 0))))), hB, H', ⟨by first | omega | exact Nat.le_refl _⟩, ⟨bkF BK412⟩, ⟨by (with_reducible repeat (first | refine blk_drewN ?_ _ | refine blk_drew ?_ | refine blk_alloc ?_ _)); refine blk_put (cs := #[.int .i64 t414, .int .i64 t415, .int .i64 0]) ?_ 2 _ rfl; (with_reducible repeat (first | refine blk_drewN ?_ _ | refine blk_drew ?_ | refine blk_alloc ?_ _)); refine blk_put (cs := #[.int .i64 t414, .int .i64 0, .int .i64 0]) ?_ 1 _ rfl; (with_reducible repeat (first | refine blk_drewN ?_ _ | refine blk_drew ?_ | refine blk_alloc ?_ _)); refine blk_put (cs := #[.int .i64 0, .int .i64 0, .int .i64 0]) ?_ 0 _ rfl; (with_reducible repeat (first | refine blk_drewN ?_ _ | refine blk_drew ?_ | refine blk_alloc ?_ _)); exact BK418.out⟩, ⟨blA⟩⟩
   ·
    replace c16 := Bool.eq_false_iff.mpr c16
    subst c16
    rw [if_neg (show ¬ (false = true) by decide)] at H
    try dsimp only at H
    have H' := Aside0.mk H
    clear H
    go_wp2
    go_meet
    case rel => exact ⟨_, (true), hB, H', ⟨by first | omega | exact Nat.le_refl _⟩, ⟨bkF BK412⟩, ⟨by (with_reducible repeat (first | refine blk_drewN ?_ _ | refine blk_drew ?_ | refine blk_alloc ?_ _)); refine blk_put (cs := #[.int .i64 t414, .int .i64 t415, .int .i64 0]) ?_ 2 _ rfl; (with_reducible repeat (first | refine blk_drewN ?_ _ | refine blk_drew ?_ | refine blk_alloc ?_ _)); refine blk_put (cs := #[.int .i64 t414, .int .i64 0, .int .i64 0]) ?_ 1 _ rfl; (with_reducible repeat (first | refine blk_drewN ?_ _ | refine blk_drew ?_ | refine blk_alloc ?_ _)); refine blk_put (cs := #[.int .i64 0, .int .i64 0, .int .i64 0]) ?_ 0 _ rfl; (with_reducible repeat (first | refine blk_drewN ?_ _ | refine blk_drew ?_ | refine blk_alloc ?_ _)); exact BK418.out⟩, ⟨blA⟩⟩
  case rest =>
   clear HC7
   try clear c1
   try clear p2
   try clear c5
   try clear c5b0
   try clear c5b1
   try clear c6
   try clear c14
   try clear c16
   try clear c17
   try clear hcz11_0
   try clear hcz11_1
   try clear hcz11_2
   try clear hcz11_3
   try clear hcz15_0
   try clear hcz15_1
   try clear hcz15_2
   try clear hcz18_0
   try clear hcz18_1
   try clear hcz18_2
   try clear hcz9_0
   try clear hcz9_1
   try clear hcz9_2
   try clear hcz9_3
   try clear hfz11_0
   try clear hfz11_1
   try clear hfz11_2
   try clear hfz11_3
   try clear hfz15_0
   try clear hfz15_1
   try clear hfz15_2
   try clear hfz18_0
   try clear hfz18_1
   try clear hfz18_2
   try clear hfz9_0
   try clear hfz9_1
   try clear hfz9_2
   try clear hfz9_3
   obtain ⟨kq, x37_6, rfl, HA, HJ6, BK412, BK418, HB⟩ := hcut
   cases kq with
   | zero => exact absurd HA.out (by simp [spec_PermutationOfSphere.j0])
   | succ kj6 =>
    have H := HA.out
    clear HA
    simp only [spec_PermutationOfSphere.j0] at H
    by_cases c19 : x37_6 = true
    ·
     subst c19
     rw [if_pos rfl] at H
     try dsimp only at H
     simp only [Option.some.injEq, Prod.mk.injEq] at H
     obtain ⟨rfl, rfl⟩ := H
     go_wp2
     go_ret2
     exact ⟨_, by first | rfl | (simp [errW_none, errW_some] <;> rfl) | (simp [*, errW_none, errW_some] <;> rfl), by first | exact Kd.R_nil _ _ _ _ _ | exact Kd.N_nil _ _ _ _ _ | exact Kd.V_nil _ _ _ _ _ | exact Kd.Q_nil _ _ _ _ _ | exact Kd.S_nil _ _ _ _ _, blA⟩
    ·
     replace c19 := Bool.eq_false_iff.mpr c19
     subst c19
     rw [if_neg (show ¬ (false = true) by decide)] at H
     try dsimp only at H
     replace H := bS H
     obtain ⟨⟨t419, t422⟩, A20, H⟩ := H
     try dsimp only at H
     obtain ⟨y423, hy423⟩ : ∃ y_ : List Int, y_ = (([] : List Int)) := ⟨_, rfl⟩
     replace H : (spec_PermutationOfSphere.l0 kj6 a0 t419 y423 0 a1_0 a1_1 a1_2 a1_3) = some (r1, r2) := by first | (rw [hy423]; with_reducible exact H) | (have H2_ := (Option.bind_some _ _).symm.trans H; rw [hy423]; with_reducible exact H2_) | (have H2_ := (Option.bind_some _ _).symm.trans H; with_reducible exact H2_) | with_reducible exact H | (rw [hy423]; exact H) | exact H
     have Ny423 := Aside0.mk hy423
     clear hy423
     have H' := Aside0.mk H
     clear H
     go_wp2_with (first | ((with_reducible refine gate_callee (f := 61) rfl ?_); refine goesL_ (some 42) rfl rfl Try.func61 (by kernel_rfl) rfl #[.int .i64 a0, .agg #[.int .i64 0, .int .i64 0, .int .i64 0], .int .i64 a2] rfl hA ?_; (with_reducible refine (spec_SphereAround.calls kj6 a0 0 0 0 a2 t419 t422 _ A20.out).mono ?_); rintro e w21 ⟨v420, rfl, ho0, hb⟩; refine ⟨_, rfl, ?_⟩; have n0_ := Aside0.mk (Kd.R_lower (Kd.R_newB ho0 (bkA BK418)) (below_size blA)); have n1_ := kB BK412 hb; have n2_ := kB BK418 hb; have n3_ := lB hb; clear BK412; clear BK418; clear HB; have HO421 := n0_; have BK412 := n1_; have BK418 := n2_; have HB := n3_; clear n0_ n1_ n2_ n3_; (try clear hb); (try clear hb2); (try clear hk); (try clear hi); (try clear ho0)) | ((with_reducible refine gate_dst (N := 45) rfl ?_); refine Kd.R_lit (Kd.int .i64) _ 2 ?hg (N := 45) ?hd (xs := ([] : List Int)) (inner := []) (ok := fun _ => True) (okp := fun _ => True) ?hr ?hp (fun _ hk => hk) trivial (Below.refl _ _) (Nat.le_refl _) (by simp) ?_; (case hd => rfl); (case hg => rfl); (case hr => first | (go_simp; done) | (go_simp; rfl)); (case hp => exact (Reps.none _ _)); intro v424 w22 ho23 hb hg_ hnew_; clear hg_ hnew_; (first | rw [← Ny423.out] at ho23 | (simp only [Int.reduceToNat] at ho23; rw [← Ny423.out] at ho23)); have n0_ := Aside0.mk (Kd.R_below (rA HO421) hb); have n1_ := Aside0.mk (Kd.R_lower ho23 (below_size blA)); have n2_ := kB BK412 hb; have n3_ := kB BK418 hb; have n4_ := lB hb; clear HO421; clear BK412; clear BK418; clear HB; have HO421 := n0_; have HO425 := n1_; have BK412 := n2_; have BK418 := n3_; have HB := n4_; clear n0_ n1_ n2_ n3_ n4_; clear hb ho23))
     go_loopg [13, 14] kj6 (fun kq v13 v14 w' => ∃ (x13_2 : List Int) (x14_2 : Int), v14 = .int .i64 x14_2 ∧ Aside0 (spec_PermutationOfSphere.l0 kq a0 t419 x13_2 x14_2 a1_0 a1_1 a1_2 a1_3 = some (r1, r2)) ∧ Aside0 (kq ≤ kj6) ∧ Aside0 (Kd.R k39 39 w' w.heap.size (fun k_ => k_ ≠ gb418) v420 t419) ∧ Aside0 (Kd.R (Kd.int .i64) 2 w' w.heap.size (fun _ => True) v13 x13_2) ∧ Aside0 (w'.heap[gb412]? = some (.cells #[.int .i64 a1_0, .int .i64 a1_1, .int .i64 a1_2, .int .i64 a1_3] 26 (0, 0))) ∧ Aside0 (w'.heap[gb418]? = some (.cells #[.int .i64 t414, .int .i64 t415, .int .i64 t416] 39 (0, 0))) ∧ Aside0 (Below w.heap.size w w'))
     case atStart => exact ⟨(y423), (0), hB, H', ⟨Nat.le_refl _⟩, ⟨by (with_reducible repeat (first | apply Kd.R_alloc | apply Kd.R_drewN | apply Kd.R_drew)); exact Kd.R_mono HO421.out (fun _ hk => hk.2)⟩, ⟨rA HO425⟩, ⟨bkA BK412⟩, ⟨bkA BK418⟩, ⟨blA⟩⟩
     case round =>
      clear H'
      try clear c1
      try clear p2
      try clear c5
      try clear c5b0
      try clear c5b1
      try clear c6
      try clear c14
      try clear c16
      try clear c17
      try clear c19
      try clear hcz11_0
      try clear hcz11_1
      try clear hcz11_2
      try clear hcz11_3
      try clear hcz15_0
      try clear hcz15_1
      try clear hcz15_2
      try clear hcz18_0
      try clear hcz18_1
      try clear hcz18_2
      try clear hcz9_0
      try clear hcz9_1
      try clear hcz9_2
      try clear hcz9_3
      try clear hfz11_0
      try clear hfz11_1
      try clear hfz11_2
      try clear hfz11_3
      try clear hfz15_0
      try clear hfz15_1
      try clear hfz15_2
      try clear hfz18_0
      try clear hfz18_1
      try clear hfz18_2
      try clear hfz9_0
      try clear hfz9_1
      try clear hfz9_2
      try clear hfz9_3
      try clear p2
      obtain ⟨x13_2, x14_2, rfl, HA, HK2, HO_11, HO_13, BK412, BK418, HB⟩ := hrel
      cases gk with
      | zero => exact absurd HA.out (by simp [spec_PermutationOfSphere.l0])
      | succ k2 =>
       have H := HA.out
       clear HA
       simp only [spec_PermutationOfSphere.l0] at H
       by_cases c24 : x14_2 < (t419.length : Int)
       ·
        rw [if_pos c24] at H
        have c24b0 := decide_eq_true c24
        clear c24
        by_cases c25 : 0 ≤ x14_2
        ·
         rw [if_pos c25] at H
         have c25b0 := decide_eq_true c25
         clear c25
         replace H := bS H
         obtain ⟨⟨t427, t428, t429, t430⟩, A26, H⟩ := H
         try dsimp only at H
         replace H := bS H
         obtain ⟨t432, A27, H⟩ := H
         try dsimp only at H
         by_cases c28 : x13_2.length < 17592186044416
         ·
          rw [if_pos c28] at H
          have LMc28 := Aside0.mk c28
          clear c28
          obtain ⟨y433, hy433⟩ : ∃ y_ : List Int, y_ = (x13_2 ++ [t432]) := ⟨_, rfl⟩
          replace H : (spec_PermutationOfSphere.l0 k2 a0 t419 y433 (wrap64 (x14_2 + 1)) a1_0 a1_1 a1_2 a1_3) = some (r1, r2) := by first | (rw [hy433]; with_reducible exact H) | (have H2_ := (Option.bind_some _ _).symm.trans H; rw [hy433]; with_reducible exact H2_) | (have H2_ := (Option.bind_some _ _).symm.trans H; with_reducible exact H2_) | with_reducible exact H | (rw [hy433]; exact H) | exact H
          have Ny433 := Aside0.mk hy433
          clear hy433
          have H' := Aside0.mk H
          clear H
          obtain ⟨Ao29, co29, eo29⟩ := Kd.R_slice HO_11.out
          subst eo29
          try go_wp2
          have n0_ := Aside0.mk (Kd.R_drew HO_11.out)
          have n1_ := Aside0.mk (Kd.R_drew HO_13.out)
          have n2_ := Aside0.mk (blk_drew BK412.out)
          have n3_ := Aside0.mk (blk_drew BK418.out)
          have n4_ := Aside0.mk (below_drew1 HB.out)
          clear HO_11
          clear HO_13
          clear BK412
          clear BK418
          clear HB
          have HO_11 := n0_
          have HO_13 := n1_
          have BK412 := n2_
          have BK418 := n3_
          have HB := n4_
          clear n0_ n1_ n2_ n3_ n4_
          have p426 : 0 ≤ (x14_2 : Int) := dA
          have q426 : x14_2 < (t419.length : Int) := dA
          obtain ⟨ad426, e426, hx426_0, hx426_1, hx426_2⟩ := at_T39 (Kd.R_reads' HO_11.out).2.2 x14_2 p426 q426
          cases e426
          replace p426 := eq_true p426
          replace q426 := eq_true q426
          refine start_ (n := 13) (S := fun w' => w'.cell? ⟨gb412, 0, none⟩ = some (.int .i64 a1_0) ∧ w'.cell? ⟨gb412, 1, none⟩ = some (.int .i64 a1_1) ∧ w'.cell? ⟨gb412, 2, none⟩ = some (.int .i64 a1_2) ∧ w'.cell? ⟨gb412, 3, none⟩ = some (.int .i64 a1_3) ∧ w'.cell? (ad426.add ((x14_2).toNat * 3)) = some (.int .i64 ((rd_T39 t419 x14_2).f0)) ∧ w'.cell? ⟨(ad426.add ((x14_2).toNat * 3)).block, (ad426.add ((x14_2).toNat * 3)).off + 1, none⟩ = some (.int .i64 ((rd_T39 t419 x14_2).f1)) ∧ w'.cell? ⟨(ad426.add ((x14_2).toNat * 3)).block, (ad426.add ((x14_2).toNat * 3)).off + 2, none⟩ = some (.int .i64 ((rd_T39 t419 x14_2).f2))) (ds := []) #[Z, Z, Z, Z, Z, Z, Z, Z, Z, Z, Z, Z, Z] (by kernel_rfl) rfl rfl ⟨cA BK412 0, cA BK412 1, cA BK412 2, cA BK412 3, hx426_0, hx426_1, hx426_2⟩ (fun hHeld => ?_); refine with_tabW spec_PermutationOfSphere.tab12 spec_PermutationOfSphere.bits12 (fun HT_ HW_ => ?_)
          generalize wr.drew = w30 at HO_11 HO_13 BK412 BK418 HB hx426_0 hx426_1 hx426_2 hHeld ⊢
          refine pure_ (i := 0) (N := some 53) (v := ?_) (a' := ?_) #[Y, Z, Z, Z, Z, Z, Z, Z, Z, Z, Z, Z, Z] rfl rfl (any_of HT_.out (by kernel_rfl)) (fun _ _ _ h => h) (Or.inl ⟨by rfl, ?_⟩) ?_ ?_
          rotate_left
          ·
           intro w'
           go_simp
           with_reducible rfl
          rotate_left
          ·
           simp only [pA]
           rfl
          refine pure_ (i := 2) (N := some 55) (v := ?_) (a' := ?_) #[Y, Z, Y, Z, Z, Z, Z, Z, Z, Z, Z, Z, Z] rfl rfl (any_of HT_.out (by kernel_rfl)) (fun _ _ _ h => h) (Or.inl ⟨by rfl, ?_⟩) ?_ ?_
          rotate_left
          ·
           intro w'
           go_simp
           with_reducible rfl
          rotate_left
          ·
           simp only [pA]
           rfl
          refine pure_ (i := 3) (N := some 56) (v := ?_) (a' := ?_) #[Y, Z, Y, Y, Z, Z, Z, Z, Z, Z, Z, Z, Z] rfl rfl (any_of HT_.out (by kernel_rfl)) (fun _ _ _ h => h) (Or.inl ⟨by rfl, ?_⟩) ?_ ?_
          rotate_left
          ·
           intro w'
           go_simp
           with_reducible rfl
          rotate_left
          ·
           simp only [pA]
           rfl
          refine pure_ (i := 4) (N := some 57) (v := ?_) (a' := ?_) #[Y, Z, Y, Y, Y, Z, Z, Z, Z, Z, Z, Z, Z] rfl rfl (any_of HT_.out (by kernel_rfl)) (fun _ _ _ h => h) (Or.inl ⟨by rfl, ?_⟩) ?_ ?_
          rotate_left
          ·
           intro w'
           go_simp
           with_reducible rfl
          rotate_left
          ·
           simp only [pA]
           rfl
          refine take_ (i := 1) (N := some 54) (v := ?_) (a' := ?_) #[Y, Y, Y, Y, Y, Z, Z, Z, Z, Z, Z, Z, Z] rfl rfl (take_ofW HT_.out HW_.out (by kernel_rfl)) (fun _ _ _ h => h) (Or.inl ⟨by rfl, ?_⟩) hHeld ?_ ?_
          rotate_left
          ·
           rintro w' ⟨s0, s1, s2, s3, s4, s5, s6⟩
           go_simp
           with_reducible rfl
          rotate_left
          ·
           simp only [pA]
           rfl
          refine take_ (i := 5) (N := some 58) (v := ?_) (a' := ?_) #[Y, Y, Y, Y, Y, Y, Z, Z, Z, Z, Z, Z, Z] rfl rfl (take_ofW HT_.out HW_.out (by kernel_rfl)) (fun _ _ _ h => h) (Or.inl ⟨by rfl, ?_⟩) hHeld ?_ ?_
          rotate_left
          ·
           rintro w' ⟨s0, s1, s2, s3, s4, s5, s6⟩
           go_simp
           with_reducible rfl
          rotate_left
          ·
           simp only [pA]
           rfl
          refine join_ (σ := Nat) 2 #[Y, Y, Y, Y, Y, Y, Y, Y, Y, Y, Y, Z, Z] (fun s_ => [(59, .tuple #[.agg #[.int .i64 t427, .int .i64 t428, .int .i64 t429], .bool t430]), (15, .pointer (some ⟨s_, 0, none⟩)), (52, .tuple #[.agg #[.int .i64 t427, .int .i64 t428, .int .i64 t429], .bool t430]), (60, .agg #[.int .i64 t427, .int .i64 t428, .int .i64 t429]), (61, .bool t430)]) (fun s_ w' => (w'.cell? ⟨gb412, 0, none⟩ = some (.int .i64 a1_0) ∧ w'.cell? ⟨gb412, 1, none⟩ = some (.int .i64 a1_1) ∧ w'.cell? ⟨gb412, 2, none⟩ = some (.int .i64 a1_2) ∧ w'.cell? ⟨gb412, 3, none⟩ = some (.int .i64 a1_3) ∧ w'.cell? (ad426.add ((x14_2).toNat * 3)) = some (.int .i64 ((rd_T39 t419 x14_2).f0)) ∧ w'.cell? ⟨(ad426.add ((x14_2).toNat * 3)).block, (ad426.add ((x14_2).toNat * 3)).off + 1, none⟩ = some (.int .i64 ((rd_T39 t419 x14_2).f1)) ∧ w'.cell? ⟨(ad426.add ((x14_2).toNat * 3)).block, (ad426.add ((x14_2).toNat * 3)).off + 2, none⟩ = some (.int .i64 ((rd_T39 t419 x14_2).f2))) ∧ (Kd.R k39 39 w' w.heap.size (fun k_ => k_ ≠ gb418 ∧ k_ ≠ s_) (.slice (some ad426) t419.length co29) t419) ∧ (Kd.R (Kd.int .i64) 2 w' w.heap.size (fun _ => True) u13 x13_2) ∧ (w'.heap[gb412]? = some (.cells #[.int .i64 a1_0, .int .i64 a1_1, .int .i64 a1_2, .int .i64 a1_3] 26 (0, 0))) ∧ (w'.heap[gb418]? = some (.cells #[.int .i64 t414, .int .i64 t415, .int .i64 t416] 39 (0, 0))) ∧ (w'.heap[s_]? = some (.cells #[.int .i64 0, .int .i64 0, .int .i64 0] 39 (0, 0))) ∧ (w.heap.size ≤ s_) ∧ (w.heap.size ≤ s_) ∧ (gb412 ≠ s_) ∧ (s_ ≠ gb412) ∧ (gb418 ≠ s_) ∧ (s_ ≠ gb418) ∧ (Below w.heap.size w w')) ?_ ?_
          rotate_left
          ·
           intro hCont
           refine two_ (i := 6) (j := 10) (Ni := some 59) (Nj := some 15) #[Y, Y, Y, Y, Y, Y, Y, Z, Z, Z, Z, Z, Z] #[Y, Y, Y, Y, Y, Y, Z, Z, Z, Z, Y, Z, Z] rfl rfl rfl rfl (two_of HT_.out (by kernel_rfl)) (by decide) (by decide) (fun K hK => ?_) (fun K hK => ?_)
           ·
            skip
            refine goes_ Try.func62 (by kernel_rfl) rfl #[.int .i64 a0, .agg #[.int .i64 a1_0, .int .i64 a1_1, .int .i64 a1_2, .int .i64 a1_3], .agg #[.int .i64 ((rd_T39 t419 x14_2).f0), .int .i64 ((rd_T39 t419 x14_2).f1), .int .i64 ((rd_T39 t419 x14_2).f2)]] (by rfl) rfl rfl hA ?_
            with_reducible refine (spec_l04Move.calls k2 a0 a1_0 a1_1 a1_2 a1_3 ((rd_T39 t419 x14_2).f0) ((rd_T39 t419 x14_2).f1) ((rd_T39 t419 x14_2).f2) t427 t428 t429 t430 _ A26.out).mono ?_
            rintro e w31 ⟨rfl, hb⟩
            have HS4_ := (hb.cell (World.block_lt_of_cell? _ _ (hHeld.2.2.2.2.1))).trans (hHeld.2.2.2.2.1)
            have HS5_ := (hb.cell (World.block_lt_of_cell? _ _ (hHeld.2.2.2.2.2.1))).trans (hHeld.2.2.2.2.2.1)
            have HS6_ := (hb.cell (World.block_lt_of_cell? _ _ (hHeld.2.2.2.2.2.2))).trans (hHeld.2.2.2.2.2.2)
            refine ⟨_, rfl, ?_⟩
            replace HO_11 := Aside0.mk (Kd.R_below (rA HO_11) hb)
            replace HO_13 := Aside0.mk (Kd.R_below (rA HO_13) hb)
            replace BK412 := kB BK412 hb
            replace BK418 := kB BK418 hb
            replace HB := lB hb
            (try clear hb)
            (try clear hb2)
            (try clear hk)
            (try clear hi)
            refine hK.out _ _ ⟨cA BK412 0, cA BK412 1, cA BK412 2, cA BK412 3, HS4_, HS5_, HS6_⟩ (fun hHeld => ?_)
            clear hK K
            refine norm_ (a' := ?_) ?_ ?_
            rotate_left
            ·
             show Act.put _ (some 59) _ = _
             simp only [pA]
             rfl
            refine pure_ (i := 7) (N := some 52) (v := ?_) (a' := ?_) #[Y, Y, Y, Y, Y, Y, Y, Y, Z, Z, Z, Z, Z] rfl rfl (any_of HT_.out (by kernel_rfl)) (fun _ _ _ h => h) (Or.inl ⟨by rfl, ?_⟩) ?_ ?_
            rotate_left
            ·
             intro w'
             go_simp
             with_reducible rfl
            rotate_left
            ·
             simp only [pA]
             rfl
            refine pure_ (i := 8) (N := some 60) (v := ?_) (a' := ?_) #[Y, Y, Y, Y, Y, Y, Y, Y, Y, Z, Z, Z, Z] rfl rfl (any_of HT_.out (by kernel_rfl)) (fun _ _ _ h => h) (Or.inl ⟨by rfl, ?_⟩) ?_ ?_
            rotate_left
            ·
             intro w'
             go_simp
             with_reducible rfl
            rotate_left
            ·
             simp only [pA]
             rfl
            refine pure_ (i := 9) (N := some 61) (v := ?_) (a' := ?_) #[Y, Y, Y, Y, Y, Y, Y, Y, Y, Y, Z, Z, Z] rfl rfl (any_of HT_.out (by kernel_rfl)) (fun _ _ _ h => h) (Or.inl ⟨by rfl, ?_⟩) ?_ ?_
            rotate_left
            ·
             intro w'
             go_simp
             with_reducible rfl
            rotate_left
            ·
             simp only [pA]
             rfl
            refine one_ (i := 10) (N := some 15) #[Y, Y, Y, Y, Y, Y, Y, Y, Y, Y, Y, Z, Z] rfl rfl (one_of HT_.out (by kernel_rfl)) (by decide) (fun K hK => ?_)
            refine box_step ?hg (N := 15) ?hd (cs := #[.int .i64 0, .int .i64 0, .int .i64 0]) (t := 39) ?hr ?_; (case hd => rfl); (case hg => rfl); (case hr => first | (go_simp; done) | (go_simp; rfl))
            intro gb431 hg w32 hbox hb
            have HS4_ := (hb.cell (World.block_lt_of_cell? _ _ (hHeld.2.2.2.2.1))).trans (hHeld.2.2.2.2.1)
            have HS5_ := (hb.cell (World.block_lt_of_cell? _ _ (hHeld.2.2.2.2.2.1))).trans (hHeld.2.2.2.2.2.1)
            have HS6_ := (hb.cell (World.block_lt_of_cell? _ _ (hHeld.2.2.2.2.2.2))).trans (hHeld.2.2.2.2.2.2)
            have BK431 := Aside0.mk (hbox)
            have GW431 := sA hg
            have GE431 := sA hg
            have NB412_431 := nA hg BK412
            have NB431_412 := nB hg BK412
            have NB418_431 := nA hg BK418
            have NB431_418 := nB hg BK418
            replace HO_11 := Aside0.mk (Kd.R_below (Kd.R_elderB (rA HO_11) gb431 (Nat.le_of_eq hg.symm)) hb)
            replace HO_13 := Aside0.mk (Kd.R_below (rA HO_13) hb)
            replace BK412 := kB BK412 hb
            replace BK418 := kB BK418 hb
            replace HB := lB hb
            clear hb hbox hg
            refine hK.out _ _ ⟨cA BK412 0, cA BK412 1, cA BK412 2, cA BK412 3, HS4_, HS5_, HS6_⟩ (fun hHeld => ?_)
            clear hK K
            refine norm_ (a' := ?_) ?_ ?_
            rotate_left
            ·
             show Act.put _ (some 15) _ = _
             simp only [pA]
             rfl
            exact norm_ (by simp only [putAll, Act.put, List.setIfInBounds_toArray, List.set_cons_zero, List.set_cons_succ]) (hCont (gb431) _ ⟨hHeld, (rA HO_11), (rA HO_13), (bkA BK412), (bkA BK418), (bkA BK431), GW431.out, GE431.out, NB412_431.out, NB431_412.out, NB418_431.out, NB431_418.out, blA⟩)
           ·
            skip
            refine box_step ?hg (N := 15) ?hd (cs := #[.int .i64 0, .int .i64 0, .int .i64 0]) (t := 39) ?hr ?_; (case hd => rfl); (case hg => rfl); (case hr => first | (go_simp; done) | (go_simp; rfl))
            intro gb431 hg w31 hbox hb
            have HS4_ := (hb.cell (World.block_lt_of_cell? _ _ (hHeld.2.2.2.2.1))).trans (hHeld.2.2.2.2.1)
            have HS5_ := (hb.cell (World.block_lt_of_cell? _ _ (hHeld.2.2.2.2.2.1))).trans (hHeld.2.2.2.2.2.1)
            have HS6_ := (hb.cell (World.block_lt_of_cell? _ _ (hHeld.2.2.2.2.2.2))).trans (hHeld.2.2.2.2.2.2)
            have BK431 := Aside0.mk (hbox)
            have GW431 := sA hg
            have GE431 := sA hg
            have NB412_431 := nA hg BK412
            have NB431_412 := nB hg BK412
            have NB418_431 := nA hg BK418
            have NB431_418 := nB hg BK418
            replace HO_11 := Aside0.mk (Kd.R_below (Kd.R_elderB (rA HO_11) gb431 (Nat.le_of_eq hg.symm)) hb)
            replace HO_13 := Aside0.mk (Kd.R_below (rA HO_13) hb)
            replace BK412 := kB BK412 hb
            replace BK418 := kB BK418 hb
            replace HB := lB hb
            clear hb hbox hg
            refine hK.out _ _ ⟨cA BK412 0, cA BK412 1, cA BK412 2, cA BK412 3, HS4_, HS5_, HS6_⟩ (fun hHeld => ?_)
            clear hK K
            refine norm_ (a' := ?_) ?_ ?_
            rotate_left
            ·
             show Act.put _ (some 15) _ = _
             simp only [pA]
             rfl
            refine one_ (i := 6) (N := some 59) #[Y, Y, Y, Y, Y, Y, Y, Z, Z, Z, Y, Z, Z] rfl rfl (one_of HT_.out (by kernel_rfl)) (by decide) (fun K hK => ?_)
            refine goes_ Try.func62 (by kernel_rfl) rfl #[.int .i64 a0, .agg #[.int .i64 a1_0, .int .i64 a1_1, .int .i64 a1_2, .int .i64 a1_3], .agg #[.int .i64 ((rd_T39 t419 x14_2).f0), .int .i64 ((rd_T39 t419 x14_2).f1), .int .i64 ((rd_T39 t419 x14_2).f2)]] (by rfl) rfl rfl hA ?_
            with_reducible refine (spec_l04Move.calls k2 a0 a1_0 a1_1 a1_2 a1_3 ((rd_T39 t419 x14_2).f0) ((rd_T39 t419 x14_2).f1) ((rd_T39 t419 x14_2).f2) t427 t428 t429 t430 _ A26.out).mono ?_
            rintro e w32 ⟨rfl, hb⟩
            have HS4_ := (hb.cell (World.block_lt_of_cell? _ _ (hHeld.2.2.2.2.1))).trans (hHeld.2.2.2.2.1)
            have HS5_ := (hb.cell (World.block_lt_of_cell? _ _ (hHeld.2.2.2.2.2.1))).trans (hHeld.2.2.2.2.2.1)
            have HS6_ := (hb.cell (World.block_lt_of_cell? _ _ (hHeld.2.2.2.2.2.2))).trans (hHeld.2.2.2.2.2.2)
            refine ⟨_, rfl, ?_⟩
            replace HO_11 := Aside0.mk (Kd.R_below (rA HO_11) hb)
            replace HO_13 := Aside0.mk (Kd.R_below (rA HO_13) hb)
            replace BK412 := kB BK412 hb
            replace BK418 := kB BK418 hb
            replace BK431 := kB BK431 hb
            replace HB := lB hb
            (try clear hb)
            (try clear hb2)
            (try clear hk)
            (try clear hi)
            refine hK.out _ _ ⟨cA BK412 0, cA BK412 1, cA BK412 2, cA BK412 3, HS4_, HS5_, HS6_⟩ (fun hHeld => ?_)
            clear hK K
            refine norm_ (a' := ?_) ?_ ?_
            rotate_left
            ·
             show Act.put _ (some 59) _ = _
             simp only [pA]
             rfl
            refine pure_ (i := 7) (N := some 52) (v := ?_) (a' := ?_) #[Y, Y, Y, Y, Y, Y, Y, Y, Z, Z, Y, Z, Z] rfl rfl (any_of HT_.out (by kernel_rfl)) (fun _ _ _ h => h) (Or.inl ⟨by rfl, ?_⟩) ?_ ?_
            rotate_left
            ·
             intro w'
             go_simp
             with_reducible rfl
            rotate_left
            ·
             simp only [pA]
             rfl
            refine pure_ (i := 8) (N := some 60) (v := ?_) (a' := ?_) #[Y, Y, Y, Y, Y, Y, Y, Y, Y, Z, Y, Z, Z] rfl rfl (any_of HT_.out (by kernel_rfl)) (fun _ _ _ h => h) (Or.inl ⟨by rfl, ?_⟩) ?_ ?_
            rotate_left
            ·
             intro w'
             go_simp
             with_reducible rfl
            rotate_left
            ·
             simp only [pA]
             rfl
            refine pure_ (i := 9) (N := some 61) (v := ?_) (a' := ?_) #[Y, Y, Y, Y, Y, Y, Y, Y, Y, Y, Y, Z, Z] rfl rfl (any_of HT_.out (by kernel_rfl)) (fun _ _ _ h => h) (Or.inl ⟨by rfl, ?_⟩) ?_ ?_
            rotate_left
            ·
             intro w'
             go_simp
             with_reducible rfl
            rotate_left
            ·
             simp only [pA]
             rfl
            exact norm_ (by simp only [putAll, Act.put, List.setIfInBounds_toArray, List.set_cons_zero, List.set_cons_succ]) (hCont (gb431) _ ⟨hHeld, (rA HO_11), (rA HO_13), (bkA BK412), (bkA BK418), (bkA BK431), GW431.out, GE431.out, NB412_431.out, NB431_412.out, NB418_431.out, NB431_418.out, blA⟩)
          rintro gb431 w33 ⟨hS_, h0_, h1_, h2_, h3_, h4_, h5_, h6_, h7_, h8_, h9_, h10_, h11_⟩
          have BK431 := Aside0.mk h4_
          have GW431 := Aside0.mk h5_
          have GE431 := Aside0.mk h6_
          have NB412_431 := Aside0.mk h7_
          have NB431_412 := Aside0.mk h8_
          have NB418_431 := Aside0.mk h9_
          have NB431_418 := Aside0.mk h10_
          replace HO_11 := Aside0.mk h0_
          replace HO_13 := Aside0.mk h1_
          replace BK412 := Aside0.mk h2_
          replace BK418 := Aside0.mk h3_
          replace HB := Aside0.mk h11_
          clear h0_ h1_ h2_ h3_ h4_ h5_ h6_ h7_ h8_ h9_ h10_ h11_
          have hHeld : w33.cell? ⟨gb412, 0, none⟩ = some (.int .i64 a1_0) ∧ w33.cell? ⟨gb412, 1, none⟩ = some (.int .i64 a1_1) ∧ w33.cell? ⟨gb412, 2, none⟩ = some (.int .i64 a1_2) ∧ w33.cell? ⟨gb412, 3, none⟩ = some (.int .i64 a1_3) ∧ w33.cell? (ad426.add ((x14_2).toNat * 3)) = some (.int .i64 ((rd_T39 t419 x14_2).f0)) ∧ w33.cell? ⟨(ad426.add ((x14_2).toNat * 3)).block, (ad426.add ((x14_2).toNat * 3)).off + 1, none⟩ = some (.int .i64 ((rd_T39 t419 x14_2).f1)) ∧ w33.cell? ⟨(ad426.add ((x14_2).toNat * 3)).block, (ad426.add ((x14_2).toNat * 3)).off + 2, none⟩ = some (.int .i64 ((rd_T39 t419 x14_2).f2)) := hS_
          refine norm_ (a' := ?_) ?_ ?_
          rotate_left
          ·
           simp only [putAll, Act.put, List.setIfInBounds_toArray, List.set_cons_zero, List.set_cons_succ]
           rfl
          refine one_ (i := 11) (N := none) #[Y, Y, Y, Y, Y, Y, Y, Y, Y, Y, Y, Y, Z] rfl rfl (one_of HT_.out (by kernel_rfl)) (by decide) (fun K hK => ?_)
          have hs34 : w33.cell? ⟨gb431, 0, none⟩ = some (.int .i64 0) := cA BK431 0
          have hfs34 := blk_frozen BK431.out 0
          have hns34_0 := NB412_431.out
          have hns34_1 := NB418_431.out
          have hms34_0 := NB431_412.out
          have hms34_1 := NB431_418.out
          have hs35 : w33.cell? ⟨gb431, 1, none⟩ = some (.int .i64 0) := cA BK431 1
          have hfs35 := blk_frozen BK431.out 1
          have hns35_0 := NB412_431.out
          have hns35_1 := NB418_431.out
          have hms35_0 := NB431_412.out
          have hms35_1 := NB431_418.out
          have hs36 : w33.cell? ⟨gb431, 2, none⟩ = some (.int .i64 0) := cA BK431 2
          have hfs36 := blk_frozen BK431.out 2
          have hns36_0 := NB412_431.out
          have hns36_1 := NB418_431.out
          have hms36_0 := NB431_412.out
          have hms36_1 := NB431_418.out
          refine skip_ (w1 := ?_) (by rfl) rfl ?_ ?_
          rotate_left
          ·
           go_simp
           rfl
          refine hK.out _ _ ⟨((cell_far (p := ⟨gb431, _, none⟩) NB412_431.out _).trans (((cell_far (p := ⟨gb431, _, none⟩) NB412_431.out _).trans (((cell_far (p := ⟨gb431, _, none⟩) NB412_431.out _).trans (hHeld.1)))))), ((cell_far (p := ⟨gb431, _, none⟩) NB412_431.out _).trans (((cell_far (p := ⟨gb431, _, none⟩) NB412_431.out _).trans (((cell_far (p := ⟨gb431, _, none⟩) NB412_431.out _).trans (hHeld.2.1)))))), ((cell_far (p := ⟨gb431, _, none⟩) NB412_431.out _).trans (((cell_far (p := ⟨gb431, _, none⟩) NB412_431.out _).trans (((cell_far (p := ⟨gb431, _, none⟩) NB412_431.out _).trans (hHeld.2.2.1)))))), ((cell_far (p := ⟨gb431, _, none⟩) NB412_431.out _).trans (((cell_far (p := ⟨gb431, _, none⟩) NB412_431.out _).trans (((cell_far (p := ⟨gb431, _, none⟩) NB412_431.out _).trans (hHeld.2.2.2.1)))))), ((cell_far (p := ⟨gb431, _, none⟩) (fB (Kd.own_blk (Kd.R_away HO_11.out (fun _ hk => hk.2)))) _).trans (((cell_far (p := ⟨gb431, _, none⟩) (fB (Kd.own_blk (Kd.R_away HO_11.out (fun _ hk => hk.2)))) _).trans (((cell_far (p := ⟨gb431, _, none⟩) (fB (Kd.own_blk (Kd.R_away HO_11.out (fun _ hk => hk.2)))) _).trans (hHeld.2.2.2.2.1)))))), ((cell_far (p := ⟨gb431, _, none⟩) (fB (Kd.own_blk (Kd.R_away HO_11.out (fun _ hk => hk.2)))) _).trans (((cell_far (p := ⟨gb431, _, none⟩) (fB (Kd.own_blk (Kd.R_away HO_11.out (fun _ hk => hk.2)))) _).trans (((cell_far (p := ⟨gb431, _, none⟩) (fB (Kd.own_blk (Kd.R_away HO_11.out (fun _ hk => hk.2)))) _).trans (hHeld.2.2.2.2.2.1)))))), ((cell_far (p := ⟨gb431, _, none⟩) (fB (Kd.own_blk (Kd.R_away HO_11.out (fun _ hk => hk.2)))) _).trans (((cell_far (p := ⟨gb431, _, none⟩) (fB (Kd.own_blk (Kd.R_away HO_11.out (fun _ hk => hk.2)))) _).trans (((cell_far (p := ⟨gb431, _, none⟩) (fB (Kd.own_blk (Kd.R_away HO_11.out (fun _ hk => hk.2)))) _).trans (hHeld.2.2.2.2.2.2))))))⟩ (fun hHeld => ?_)
          clear hK K
          refine pure_ (i := 12) (N := some 16) (v := ?_) (a' := ?_) #[Y, Y, Y, Y, Y, Y, Y, Y, Y, Y, Y, Y, Y] rfl rfl (any_of HT_.out (by kernel_rfl)) (fun _ _ _ h => h) (Or.inl ⟨by rfl, ?_⟩) ?_ ?_
          rotate_left
          ·
           intro w'
           go_simp
           with_reducible rfl
          rotate_left
          ·
           simp only [pA]
           rfl
          refine done_ (done_of HT_.out (by kernel_rfl)) ?_
          have hnb37 := NB431_412.out
          have hnc37 := NB412_431.out
          have hnb38 := NB431_418.out
          have hnc38 := NB418_431.out
          have hcz39_0 : w33.cell? ⟨gb431, 0, none⟩ = some (.int .i64 0) := cA BK431 0
          have hcz39_1 : w33.cell? ⟨gb431, 1, none⟩ = some (.int .i64 0) := cA BK431 1
          have hcz39_2 : w33.cell? ⟨gb431, 2, none⟩ = some (.int .i64 0) := cA BK431 2
          have hfz39_0 := blk_frozen BK431.out 0
          have hfz39_1 := blk_frozen BK431.out 1
          have hfz39_2 := blk_frozen BK431.out 2
          try go_wp2_with (first | ((with_reducible refine gate_callee (f := 67) rfl ?_); refine goesL_ (some 65) rfl rfl Try.func67 (by kernel_rfl) rfl #[.slice (some ad426) t419.length co29, .agg #[.int .i64 t427, .int .i64 t428, .int .i64 t429]] rfl hA ?_; (with_reducible refine (spec_l06Find.calls k2 _ _ t419 t427 t428 t429 t432 _ ?side1 ?side2 A27.out).mono ?_); (case side1 => refine (Kd.R_reads' (e := 39) (base := w.heap.size) (ok := fun k_ => (k_ ≠ gb418 ∧ k_ ≠ gb431)) (n := t419.length) (c := co29) ?_).2.2; exact (by (with_reducible repeat (first | apply Kd.R_alloc | apply Kd.R_drewN | apply Kd.R_drew)); exact (Kd.R_mono (Kd.R_far (p := ⟨gb431, 2, none⟩) (Kd.R_far (p := ⟨gb431, 1, none⟩) (Kd.R_far (p := ⟨gb431, 0, none⟩) (Kd.R_mono HO_11.out (fun k_ hk => (⟨hk, hk.2⟩ : _ ∧ k_ ≠ gb431))) (fun _ hk => hk.2) (.int .i64 t427)) (fun _ hk => hk.2) (.int .i64 t428)) (fun _ hk => hk.2) (.int .i64 t429)) (fun _ h_ => h_.1)))); (case side2 => exact (Kd.R_reads' HO_11.out).2.1); rintro e w40 ⟨rfl, hb⟩; refine ⟨_, rfl, ?_⟩; have n0_ := Aside0.mk (Kd.R_below (by (with_reducible repeat (first | apply Kd.R_alloc | apply Kd.R_drewN | apply Kd.R_drew)); exact (Kd.R_mono (Kd.R_far (p := ⟨gb431, 2, none⟩) (Kd.R_far (p := ⟨gb431, 1, none⟩) (Kd.R_far (p := ⟨gb431, 0, none⟩) (Kd.R_mono HO_11.out (fun k_ hk => (⟨hk, hk.2⟩ : _ ∧ k_ ≠ gb431))) (fun _ hk => hk.2) (.int .i64 t427)) (fun _ hk => hk.2) (.int .i64 t428)) (fun _ hk => hk.2) (.int .i64 t429)) (fun _ h_ => h_.1))) hb); have n1_ := Aside0.mk (Kd.R_below (by (with_reducible repeat (first | apply Kd.R_alloc | apply Kd.R_drewN | apply Kd.R_drew)); exact (Kd.R_mono (Kd.R_far (p := ⟨gb431, 2, none⟩) (Kd.R_far (p := ⟨gb431, 1, none⟩) (Kd.R_far (p := ⟨gb431, 0, none⟩) (Kd.R_types HO_13.out BK431.out (by decide)) (fun _ hk => hk.2) (.int .i64 t427)) (fun _ hk => hk.2) (.int .i64 t428)) (fun _ hk => hk.2) (.int .i64 t429)) (fun _ h_ => h_.1))) hb); have n2_ := Aside0.mk (blk_below (g := gb412) (o := .cells #[.int .i64 a1_0, .int .i64 a1_1, .int .i64 a1_2, .int .i64 a1_3] 26 (0, 0)) (bkF BK412) hb); have n3_ := Aside0.mk (blk_below (g := gb418) (o := .cells #[.int .i64 t414, .int .i64 t415, .int .i64 t416] 39 (0, 0)) (bkF BK418) hb); have n4_ := Aside0.mk (blk_below (g := gb431) (o := .cells #[.int .i64 t427, .int .i64 t428, .int .i64 t429] 39 (0, 0)) (by (with_reducible repeat (first | refine blk_drewN ?_ _ | refine blk_drew ?_ | refine blk_alloc ?_ _)); refine blk_put (cs := #[.int .i64 t427, .int .i64 t428, .int .i64 0]) ?_ 2 _ rfl; (with_reducible repeat (first | refine blk_drewN ?_ _ | refine blk_drew ?_ | refine blk_alloc ?_ _)); refine blk_put (cs := #[.int .i64 t427, .int .i64 0, .int .i64 0]) ?_ 1 _ rfl; (with_reducible repeat (first | refine blk_drewN ?_ _ | refine blk_drew ?_ | refine blk_alloc ?_ _)); refine blk_put (cs := #[.int .i64 0, .int .i64 0, .int .i64 0]) ?_ 0 _ rfl; (with_reducible repeat (first | refine blk_drewN ?_ _ | refine blk_drew ?_ | refine blk_alloc ?_ _)); exact BK431.out) hb); have n5_ := lB hb; clear HO_11; clear HO_13; clear BK412; clear BK418; clear BK431; clear HB; have HO_11 := n0_; have HO_13 := n1_; have BK412 := n2_; have BK418 := n3_; have BK431 := n4_; have HB := n5_; clear n0_ n1_ n2_ n3_ n4_ n5_; (try clear hb); (try clear hb2); (try clear hk); (try clear hi)) | ((with_reducible refine gate_builtin (b := .append) (xs := #[.tmp 62, .tmp 66]) rfl ?_); at_builtin; refine Kd.R_append (Kd.int .i64) (w0 := w) w.heap.size rfl (.tmp 62) (.tmp 66) 29 2 (.int .i64 0) 8 rfl Try.underlying29 info2 rfl (by decide) (by omega) u13 x13_2 t432 [.int .i64 t432] (fun _ => True) (fun _ => False) rfl rfl ?aP (fun _ hk => hk.elim) ?aF ?aO ?aB ?aS ?aL ?_; (case aP => exact rfl); (case aB => exact blA); (case aF => exact (fun _ _ => trivial)); (case aO => exact (rA HO_13)); (case aS => exact (below_size blA)); (case aL => have := LMc28.out; omega); intro v434 w41 ho hb hg hat; rw [← Ny433.out] at ho; have n0_ := Aside0.mk (Kd.R_over' (rA HO_11) (Kd.R_typed (rA HO_13)) (by decide) hg); have n1_ := Aside0.mk (blk_grown (bkA BK412) hg (Kd.R_ne HO_13.out BK412.out (by decide))); have n2_ := Aside0.mk (blk_grown (bkA BK418) hg (Kd.R_ne HO_13.out BK418.out (by decide))); have n3_ := Aside0.mk (blk_grown (bkA BK431) hg (Kd.R_ne HO_13.out BK431.out (by decide))); have n4_ := Aside0.mk (hb); have n5_ := Aside0.mk (ho); clear HO_11; clear BK412; clear BK418; clear BK431; clear HB; clear HO_13; have HO_11 := n0_; have BK412 := n1_; have BK418 := n2_; have BK431 := n3_; have HB := n4_; have HO435 := n5_; clear n0_ n1_ n2_ n3_ n4_ n5_; clear ho hb hg hat))
          go_roundg k2
          case measure => have := HJ6.out; have := HK2.out; omega
          case rel => exact ⟨(y433), (wrap64 (x14_2 + 1)), hB, H', ⟨by have := HJ6.out; have := HK2.out; omega⟩, ⟨by (with_reducible repeat (first | apply Kd.R_alloc | apply Kd.R_drewN | apply Kd.R_drew)); exact Kd.R_mono HO_11.out (fun _ hk => hk.1)⟩, ⟨rA HO435⟩, ⟨bkA BK412⟩, ⟨bkA BK418⟩, ⟨blA⟩⟩
         ·
          rw [if_neg c28] at H
          exact absurd H (by simp)
        ·
         rw [if_neg c25] at H
         exact absurd H (by simp)
       ·
        rw [if_neg c24] at H
        have c24b0 := decide_eq_false c24
        clear c24
        simp only [Option.some.injEq, Prod.mk.injEq] at H
        obtain ⟨rfl, rfl⟩ := H
        obtain ⟨Ao42, co42, eo42⟩ := Kd.R_slice HO_11.out
        subst eo42
        go_wp2
        go_ret2
        exact ⟨_, by first | rfl | (simp [errW_none, errW_some] <;> rfl) | (simp [*, errW_none, errW_some] <;> rfl), rA HO_13, blA⟩
 ·
  rw [if_neg c5] at H
  have c5b0 : (t413 == 0) = false := beq_eq_false_iff_ne.mpr c5
  have c5b1 : (t413 != 0) = true := bne_iff_ne.mpr c5
  simp only [Option.some.injEq, Prod.mk.injEq] at H
  obtain ⟨rfl, rfl⟩ := H
  go_enter Try.func14, Try.ntmps14
  go_wp2_with (first | ((with_reducible refine gate_dst (N := 4) rfl ?_); refine box_event ?hg (N := 4) ?hd (cs := #[.int .i64 a1_0, .int .i64 a1_1, .int .i64 a1_2, .int .i64 a1_3]) (t := 26) ?hr ?_; (case hd => rfl); (case hg => rfl); (case hr => first | (go_simp; done) | (go_simp; rfl)); intro gb412 hg w43 hbox hb; have n0_ := lB hb; have n1_ := Aside0.mk (hbox); have n2_ := sA hg; have n3_ := sA hg; clear HB; have HB := n0_; have BK412 := n1_; have GW412 := n2_; have GE412 := n3_; clear n0_ n1_ n2_ n3_; clear hb hbox hg; have hcz44_0 : w43.cell? ⟨gb412, 0, none⟩ = some (.int .i64 a1_0) := cA BK412 0; have hcz44_1 : w43.cell? ⟨gb412, 1, none⟩ = some (.int .i64 a1_1) := cA BK412 1; have hcz44_2 : w43.cell? ⟨gb412, 2, none⟩ = some (.int .i64 a1_2) := cA BK412 2; have hcz44_3 : w43.cell? ⟨gb412, 3, none⟩ = some (.int .i64 a1_3) := cA BK412 3; have hfz44_0 := blk_frozen BK412.out 0; have hfz44_1 := blk_frozen BK412.out 1; have hfz44_2 := blk_frozen BK412.out 2; have hfz44_3 := blk_frozen BK412.out 3) | ((with_reducible refine gate_callee (f := 60) rfl ?_); refine goesL_ (some 20) rfl rfl Try.func60 (by kernel_rfl) rfl #[.int .i64 a0, .agg #[.int .i64 a1_0, .int .i64 a1_1, .int .i64 a1_2, .int .i64 a1_3], .int .i64 a2] rfl hA ?_; (with_reducible refine (spec_l06Sphere.calls k a0 a1_0 a1_1 a1_2 a1_3 a2 t413 _ A4.out).mono ?_); rintro e w45 ⟨rfl, hb⟩; refine ⟨_, rfl, ?_⟩; have n0_ := kB BK412 hb; have n1_ := lB hb; clear BK412; clear HB; have BK412 := n0_; have HB := n1_; clear n0_ n1_; (try clear hb); (try clear hb2); (try clear hk); (try clear hi)))
  go_ret2
  exact ⟨_, by first | rfl | (simp [errW_none, errW_some] <;> rfl) | (simp [*, errW_none, errW_some] <;> rfl), by first | exact Kd.R_nil _ _ _ _ _ | exact Kd.N_nil _ _ _ _ _ | exact Kd.V_nil _ _ _ _ _ | exact Kd.Q_nil _ _ _ _ _ | exact Kd.S_nil _ _ _ _ _, blA⟩
end Go.Proofs.Ytccpccnnbacgjaa.PAll
