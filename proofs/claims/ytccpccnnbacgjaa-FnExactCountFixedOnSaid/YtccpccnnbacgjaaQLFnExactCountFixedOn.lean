-- turned for this claim out of the kit's print: the same functions, packed anew
import Derived.Test.YtccpccnnbacgjaaQx
import Derived.Test.YtccpccnnbacgjaaQbitsLeadingZeros64
import Derived.Test.YtccpccnnbacgjaaQimplkeeps
import Derived.Test.YtccpccnnbacgjaaQimplspheres
import Derived.Test.YtccpccnnbacgjaaQspecCountFixedOn
import Derived.Test.YtccpccnnbacgjaaQspecl06Sphere
namespace Go.Proofs.Ytccpccnnbacgjaa.PAll
open Go.RowKit Go.Proofs.YtccpccnnbacgjaaW.PrintWords Go.Proofs.YtccpccnnbacgjaaW.PrintLast Go.Proofs.YtccpccnnbacgjaaW.PrintMore
attribute [local go_sem] Go.Proofs.Ytccpccnnbacgjaa.Aux.setCell_drewN Go.Proofs.Ytccpccnnbacgjaa.Aux.isSome_setCell max2_int min2_int max_two min_two max_three min_three max_four min_four   -- for this text's walks alone
set_option linter.unusedVariables false
set_option linter.unusedSimpArgs false
attribute [local go_sem high] eqA39
/-! ### impl_CountFixedOn: function 13 -/
def impl_CountFixedOn.l0 : Nat → Int → Int → List (S39) → Int → Int → Int → Int → Int → Int → Option (Int × Int)
 | 0, _, _, _, _, _, _, _, _, _ => none
 | k + 1, x0, x11, x31, x32, x33, x388000, x388001, x388002, x388003 => if x33 < x32 then (if 0 ≤ x33 then (if x33 < (x31.length : Int) then ((impl_keeps.f k x0 x388000 x388001 x388002 x388003 ((rd_T39 x31 x33).f0) ((rd_T39 x31 x33).f1) ((rd_T39 x31 x33).f2)).bind fun t396 => (if t396 = true then (impl_CountFixedOn.l0 k x0 (wrap64 (x11 + 1)) x31 x32 (wrap64 (x33 + 1)) x388000 x388001 x388002 x388003) else (impl_CountFixedOn.l0 k x0 x11 x31 x32 (wrap64 (x33 + 1)) x388000 x388001 x388002 x388003))) else (none)) else (none)) else (some (x11, 0))
def impl_CountFixedOn.f (k : Nat) (a0 : Int) (a1_0 : Int) (a1_1 : Int) (a1_2 : Int) (a1_3 : Int) (a2 : Int) : Option (Int × Int) := (impl_sphereCode.f k a0 a1_0 a1_1 a1_2 a1_3 a2).bind fun t388 => (if t388 = 0 then ((impl_spheres.f k a0 0 0 0 a2).bind fun bt389 => (if 0 ≤ a2 then (if a2 < (bt389.1.length : Int) then (impl_CountFixedOn.l0 k a0 0 (rd_L2 bt389.1 a2) ((rd_L2 bt389.1 a2).length : Int) 0 a1_0 a1_1 a1_2 a1_3) else (none)) else (none))) else (some (0, t388)))
theorem impl_CountFixedOn.mono_l : ∀ k, (∀ y0 y1 y2 y3 y4 y5 y6 y7 y8, LeO (impl_CountFixedOn.l0 k y0 y1 y2 y3 y4 y5 y6 y7 y8) (impl_CountFixedOn.l0 (k + 1) y0 y1 y2 y3 y4 y5 y6 y7 y8))
 | 0 => fun _ _ _ _ _ _ _ _ _ r h => by simp [impl_CountFixedOn.l0] at h
 | k + 1 => by
  have ih0 := impl_CountFixedOn.mono_l k
  ·
   intro y0 y1 y2 y3 y4 y5 y6 y7 y8
   unfold impl_CountFixedOn.l0
   repeat' first
   | (with_reducible exact ih0 _ _ _ _ _ _ _ _ _)
   | (with_reducible exact impl_keeps.mono _ _ _ _ _ _ _ _ _)
   | (with_reducible exact impl_sphereCode.mono _ _ _ _ _ _ _)
   | (with_reducible exact impl_spheres.mono _ _ _ _ _ _)
   | (with_reducible exact LeO.refl _)
   | (with_reducible exact LeO.none _)
   | (with_reducible refine LeO.ite ?_ ?_)
   | (with_reducible refine LeO.bind ?_ (fun _ => ?_))
   | exact ih0 _ _ _ _ _ _ _ _ _
   | exact impl_keeps.mono _ _ _ _ _ _ _ _ _
   | exact impl_sphereCode.mono _ _ _ _ _ _ _
   | exact impl_spheres.mono _ _ _ _ _ _
   | exact LeO.none _
   | refine LeO.ite ?_ ?_
   | refine LeO.bind ?_ (fun _ => ?_)
theorem impl_CountFixedOn.mono : ∀ a0 a1 a2 a3 a4 a5 k, LeO (impl_CountFixedOn.f k a0 a1 a2 a3 a4 a5) (impl_CountFixedOn.f (k + 1) a0 a1 a2 a3 a4 a5) := by
 intro a0 a1 a2 a3 a4 a5 k
 have ih0 := impl_CountFixedOn.mono_l k
 unfold impl_CountFixedOn.f
 repeat' first
   | (with_reducible exact ih0 _ _ _ _ _ _ _ _ _)
   | (with_reducible exact impl_keeps.mono _ _ _ _ _ _ _ _ _)
   | (with_reducible exact impl_sphereCode.mono _ _ _ _ _ _ _)
   | (with_reducible exact impl_spheres.mono _ _ _ _ _ _)
   | (with_reducible exact LeO.refl _)
   | (with_reducible exact LeO.none _)
   | (with_reducible refine LeO.ite ?_ ?_)
   | (with_reducible refine LeO.bind ?_ (fun _ => ?_))
   | exact ih0 _ _ _ _ _ _ _ _ _
   | exact impl_keeps.mono _ _ _ _ _ _ _ _ _
   | exact impl_sphereCode.mono _ _ _ _ _ _ _
   | exact impl_spheres.mono _ _ _ _ _ _
   | exact LeO.none _
   | refine LeO.ite ?_ ?_
   | refine LeO.bind ?_ (fun _ => ?_)
set_option maxHeartbeats 8000000 in
set_option maxRecDepth 100000 in
theorem impl_CountFixedOn.calls (k : Nat) (a0 : Int) (a1_0 : Int) (a1_1 : Int) (a1_2 : Int) (a1_3 : Int) (a2 : Int) (r1 : Int) (r2 : Int) (w : World) (h : impl_CountFixedOn.f k a0 a1_0 a1_1 a1_2 a1_3 a2 = some (r1, r2)) :
  Calls Try.prog 13 #[.int .i64 a0, .agg #[.int .i64 a1_0, .int .i64 a1_1, .int .i64 a1_2, .int .i64 a1_3], .int .i64 a2] w fun e w' => e = .returned (.tuple #[.int .i64 r1, .int .i64 r2]) ∧ Below w.heap.size w w' := by
 have hu26 := Try.underlying26
 have hu39 := Try.underlying39
 have HB := Aside0.mk (Below.refl w.heap.size w)
 have H := h
 unfold impl_CountFixedOn.f at H
 clear h
 replace H := bS H
 obtain ⟨t388, A4, H⟩ := H
 try dsimp only at H
 by_cases c5 : t388 = 0
 ·
  rw [if_pos c5] at H
  have c5b0 : (t388 == 0) = true := beq_iff_eq.mpr c5
  have c5b1 : (t388 != 0) = false := bne_eq_false_iff_eq.mpr c5
  clear c5
  replace H := bS H
  obtain ⟨⟨t389, t392⟩, A6, H⟩ := H
  try dsimp only at H
  by_cases c7 : 0 ≤ a2
  ·
   rw [if_pos c7] at H
   have c7b0 := decide_eq_true c7
   clear c7
   by_cases c8 : a2 < (t389.length : Int)
   ·
    rw [if_pos c8] at H
    have c8b0 := decide_eq_true c8
    clear c8
    have H' := Aside0.mk H
    clear H
    go_enter Try.func13, Try.ntmps13
    go_wp2_with (first | ((with_reducible refine gate_dst (N := 4) rfl ?_); refine box_event ?hg (N := 4) ?hd (cs := #[.int .i64 a1_0, .int .i64 a1_1, .int .i64 a1_2, .int .i64 a1_3]) (t := 26) ?hr ?_; (case hd => rfl); (case hg => rfl); (case hr => first | (go_simp; done) | (go_simp; rfl)); intro gb387 hg w9 hbox hb; have n0_ := lB hb; have n1_ := Aside0.mk (hbox); have n2_ := sA hg; have n3_ := sA hg; clear HB; have HB := n0_; have BK387 := n1_; have GW387 := n2_; have GE387 := n3_; clear n0_ n1_ n2_ n3_; clear hb hbox hg; have hcz10_0 : w9.cell? ⟨gb387, 0, none⟩ = some (.int .i64 a1_0) := cA BK387 0; have hcz10_1 : w9.cell? ⟨gb387, 1, none⟩ = some (.int .i64 a1_1) := cA BK387 1; have hcz10_2 : w9.cell? ⟨gb387, 2, none⟩ = some (.int .i64 a1_2) := cA BK387 2; have hcz10_3 : w9.cell? ⟨gb387, 3, none⟩ = some (.int .i64 a1_3) := cA BK387 3; have hfz10_0 := blk_frozen BK387.out 0; have hfz10_1 := blk_frozen BK387.out 1; have hfz10_2 := blk_frozen BK387.out 2; have hfz10_3 := blk_frozen BK387.out 3) | ((with_reducible refine gate_callee (f := 64) rfl ?_); refine goesL_ (some 17) rfl rfl Try.func64 (by kernel_rfl) rfl #[.int .i64 a0, .agg #[.int .i64 a1_0, .int .i64 a1_1, .int .i64 a1_2, .int .i64 a1_3], .int .i64 a2] rfl hA ?_; (with_reducible refine (impl_sphereCode.calls k a0 a1_0 a1_1 a1_2 a1_3 a2 t388 _ A4.out).mono ?_); rintro e w11 ⟨rfl, hb⟩; refine ⟨_, rfl, ?_⟩; have n0_ := kB BK387 hb; have n1_ := lB hb; clear BK387; clear HB; have BK387 := n0_; have HB := n1_; clear n0_ n1_; (try clear hb); (try clear hb2); (try clear hk); (try clear hi)) | ((with_reducible refine gate_callee (f := 65) rfl ?_); refine goesL_ (some 25) rfl rfl Try.func65 (by kernel_rfl) rfl #[.int .i64 a0, .agg #[.int .i64 0, .int .i64 0, .int .i64 0], .int .i64 a2] rfl hA ?_; (with_reducible refine (impl_spheres.calls k a0 0 0 0 a2 t389 t392 _ A6.out).mono ?_); rintro e w12 ⟨v390, rfl, ho0, hb⟩; refine ⟨_, rfl, ?_⟩; have n0_ := Aside0.mk (Kd.N_lower (Kd.N_mono (ok' := fun k_ => k_ ≠ gb387) ho0 (fun k_ hk_ => (Kd.freshB (bkA BK387) k_ hk_))) (below_size blA)); have n1_ := kB BK387 hb; have n2_ := lB hb; clear BK387; clear HB; have HO391 := n0_; have BK387 := n1_; have HB := n2_; clear n0_ n1_ n2_; (try clear hb); (try clear hb2); (try clear hk); (try clear hi); (try clear ho0); obtain ⟨Ao13, co13, eo13⟩ := Kd.N_slice HO391.out; subst eo13; have p393 : 0 ≤ (a2 : Int) := dA; have q393 : a2 < (t389.length : Int) := dA; obtain ⟨ad393, A393_0, c393_0, e393, hx393_0, hl393_0, hi393_0⟩ := at_L2 (Kd.N_reads' HO391.out).2.2 a2 p393 q393; cases e393; obtain ⟨ce393, hce393, hMe393, hcc393⟩ := Kd.N_get HO391.out [] a2 p393 (by first | exact q393 | exact dA | (have e_ := (Kd.N_reads' HO391.out).1; omega)); obtain ⟨ua393_0, uc393_0, rfl, ul393_0, ge393_0⟩ := Kd.FK_slice_open hMe393; have hv393_0 := hcc393 0 _ rfl; rw [Nat.add_zero, show ((Kd.slice 39 k39)).sz = 1 from rfl, Nat.mul_one] at hv393_0; replace hv393_0 := Option.some.inj (hv393_0.symm.trans hx393_0); injection hv393_0 with hva_ hvn_ hvc_; rw [hva_] at ge393_0; rw [hvc_] at ul393_0; have HL393_0 := Aside0.mk (show Kd.V k39 39 _ w.heap.size _ _ (rd_L2 t389 a2) from Kd.V_mk ul393_0 ge393_0); clear hva_ hvn_ hvc_ ge393_0 ul393_0; clear hcc393 hce393; have HR393_0 := Aside0.mk hi393_0; have HC393_0 := Aside0.mk hl393_0; clear hi393_0 hl393_0; replace p393 := eq_true p393; replace q393 := eq_true q393))
    go_loopg [11, 33] k (fun kq v11 v33 w' => ∃ (x11_1 : Int) (x33_1 : Int), v11 = .int .i64 x11_1 ∧ v33 = .int .i64 x33_1 ∧ Aside0 (impl_CountFixedOn.l0 kq a0 x11_1 (rd_L2 t389 a2) ((rd_L2 t389 a2).length : Int) x33_1 a1_0 a1_1 a1_2 a1_3 = some (r1, r2)) ∧ Aside0 (kq ≤ k) ∧ Aside0 (Kd.V k39 39 w' w.heap.size (fun k_ => k_ ≠ gb387) (.slice A393_0 (rd_L2 t389 a2).length c393_0) (rd_L2 t389 a2)) ∧ Aside0 (w'.heap[gb387]? = some (.cells #[.int .i64 a1_0, .int .i64 a1_1, .int .i64 a1_2, .int .i64 a1_3] 26 (0, 0))) ∧ Aside0 (Below w.heap.size w w'))
    case atStart => exact ⟨(0), (0), hB, hB, H', ⟨Nat.le_refl _⟩, ⟨by (with_reducible repeat (first | apply Kd.V_alloc | apply Kd.V_drewN | apply Kd.V_drew)); exact Kd.V_mono HL393_0.out (fun _ hk => hk.1)⟩, ⟨bkA BK387⟩, ⟨blA⟩⟩
    case round =>
     clear H'
     try clear c1
     try clear p2
     try clear c3
     try clear p3
     try clear q3
     try clear hx3
     try clear c5
     try clear c5b0
     try clear c5b1
     try clear c6
     try clear c7
     try clear c7b0
     try clear c8
     try clear c8b0
     try clear c13
     try clear hcz10_0
     try clear hcz10_1
     try clear hcz10_2
     try clear hcz10_3
     try clear hfz10_0
     try clear hfz10_1
     try clear hfz10_2
     try clear hfz10_3
     try clear hx393_0
     try clear p393
     try clear q393
     obtain ⟨x11_1, x33_1, rfl, rfl, HA, HK1, HO_31, BK387, HB⟩ := hrel
     cases gk with
     | zero => exact absurd HA.out (by simp [impl_CountFixedOn.l0])
     | succ k1 =>
      have H := HA.out
      clear HA
      simp only [impl_CountFixedOn.l0] at H
      by_cases c14 : x33_1 < ((rd_L2 t389 a2).length : Int)
      ·
       rw [if_pos c14] at H
       have c14b0 := decide_eq_true c14
       clear c14
       by_cases c15 : 0 ≤ x33_1
       ·
        rw [if_pos c15] at H
        have c15b0 := decide_eq_true c15
        clear c15
        by_cases c16 : x33_1 < ((rd_L2 t389 a2).length : Int)
        ·
         rw [if_pos c16] at H
         have c16b0 := decide_eq_true c16
         clear c16
         replace H := bS H
         obtain ⟨t396, A17, H⟩ := H
         try dsimp only at H
         by_cases c18 : t396 = true
         ·
          subst c18
          rw [if_pos rfl] at H
          try dsimp only at H
          have H' := Aside0.mk H
          clear H
          have p394 : 0 ≤ (x33_1 : Int) := dA
          have q394 : x33_1 < ((rd_L2 t389 a2).length : Int) := dA
          obtain ⟨ad394, e394, hx394_0, hx394_1, hx394_2⟩ := at_T39 (Kd.V_reads' HO_31.out).2.2 x33_1 p394 q394
          cases e394
          replace p394 := eq_true p394
          replace q394 := eq_true q394
          go_wp2_with (first | ((with_reducible refine gate_dst (N := 13) rfl ?_); refine box_event ?hg (N := 13) ?hd (cs := #[.int .i64 0, .int .i64 0, .int .i64 0]) (t := 39) ?hr ?_; (case hd => rfl); (case hg => rfl); (case hr => first | (go_simp; done) | (go_simp; rfl)); intro gb395 hg w19 hbox hb; have n0_ := Aside0.mk (Kd.V_below (Kd.V_elderB (rV HO_31) gb395 (Nat.le_of_eq hg.symm)) hb); have n1_ := kB BK387 hb; have n2_ := lB hb; have n3_ := Aside0.mk (hbox); have n4_ := sA hg; have n5_ := sA hg; have n6_ := nA hg BK387; have n7_ := nB hg BK387; clear HO_31; clear BK387; clear HB; have HO_31 := n0_; have BK387 := n1_; have HB := n2_; have BK395 := n3_; have GW395 := n4_; have GE395 := n5_; have NB387_395 := n6_; have NB395_387 := n7_; clear n0_ n1_ n2_ n3_ n4_ n5_ n6_ n7_; clear hb hbox hg; have hnb20 := NB395_387.out; have hnc20 := NB387_395.out; have hcz21_0 : w19.cell? ⟨gb395, 0, none⟩ = some (.int .i64 0) := cA BK395 0; have hcz21_1 : w19.cell? ⟨gb395, 1, none⟩ = some (.int .i64 0) := cA BK395 1; have hcz21_2 : w19.cell? ⟨gb395, 2, none⟩ = some (.int .i64 0) := cA BK395 2; have hfz21_0 := blk_frozen BK395.out 0; have hfz21_1 := blk_frozen BK395.out 1; have hfz21_2 := blk_frozen BK395.out 2; have hcz22_0 : w19.cell? ⟨gb387, 0, none⟩ = some (.int .i64 a1_0) := cA BK387 0; have hcz22_1 : w19.cell? ⟨gb387, 1, none⟩ = some (.int .i64 a1_1) := cA BK387 1; have hcz22_2 : w19.cell? ⟨gb387, 2, none⟩ = some (.int .i64 a1_2) := cA BK387 2; have hcz22_3 : w19.cell? ⟨gb387, 3, none⟩ = some (.int .i64 a1_3) := cA BK387 3; have hfz22_0 := blk_frozen BK387.out 0; have hfz22_1 := blk_frozen BK387.out 1; have hfz22_2 := blk_frozen BK387.out 2; have hfz22_3 := blk_frozen BK387.out 3) | ((with_reducible refine gate_callee (f := 66) rfl ?_); refine goesL_ (some 40) rfl rfl Try.func66 (by kernel_rfl) rfl #[.int .i64 a0, .agg #[.int .i64 a1_0, .int .i64 a1_1, .int .i64 a1_2, .int .i64 a1_3], .agg #[.int .i64 ((rd_T39 (rd_L2 t389 a2) x33_1).f0), .int .i64 ((rd_T39 (rd_L2 t389 a2) x33_1).f1), .int .i64 ((rd_T39 (rd_L2 t389 a2) x33_1).f2)]] rfl hA ?_; (with_reducible refine (impl_keeps.calls k1 a0 a1_0 a1_1 a1_2 a1_3 ((rd_T39 (rd_L2 t389 a2) x33_1).f0) ((rd_T39 (rd_L2 t389 a2) x33_1).f1) ((rd_T39 (rd_L2 t389 a2) x33_1).f2) true _ A17.out).mono ?_); rintro e w23 ⟨rfl, hb⟩; refine ⟨_, rfl, ?_⟩; have n0_ := Aside0.mk (Kd.V_below (by (with_reducible repeat (first | apply Kd.V_alloc | apply Kd.V_drewN | apply Kd.V_drew)); exact (Kd.V_mono (Kd.V_far (p := ⟨gb395, 2, none⟩) (Kd.V_far (p := ⟨gb395, 1, none⟩) (Kd.V_far (p := ⟨gb395, 0, none⟩) (Kd.V_mono HO_31.out (fun k_ hk => (⟨hk, hk.2⟩ : _ ∧ k_ ≠ gb395))) (fun _ hk => hk.2) (.int .i64 ((rd_T39 (rd_L2 t389 a2) x33_1).f0))) (fun _ hk => hk.2) (.int .i64 ((rd_T39 (rd_L2 t389 a2) x33_1).f1))) (fun _ hk => hk.2) (.int .i64 ((rd_T39 (rd_L2 t389 a2) x33_1).f2))) (fun _ h_ => h_.1))) hb); have n1_ := Aside0.mk (blk_below (g := gb387) (o := .cells #[.int .i64 a1_0, .int .i64 a1_1, .int .i64 a1_2, .int .i64 a1_3] 26 (0, 0)) (bkF BK387) hb); have n2_ := Aside0.mk (blk_below (g := gb395) (o := .cells #[.int .i64 ((rd_T39 (rd_L2 t389 a2) x33_1).f0), .int .i64 ((rd_T39 (rd_L2 t389 a2) x33_1).f1), .int .i64 ((rd_T39 (rd_L2 t389 a2) x33_1).f2)] 39 (0, 0)) (by (with_reducible repeat (first | refine blk_drewN ?_ _ | refine blk_drew ?_ | refine blk_alloc ?_ _)); refine blk_put (cs := #[.int .i64 ((rd_T39 (rd_L2 t389 a2) x33_1).f0), .int .i64 ((rd_T39 (rd_L2 t389 a2) x33_1).f1), .int .i64 0]) ?_ 2 _ rfl; (with_reducible repeat (first | refine blk_drewN ?_ _ | refine blk_drew ?_ | refine blk_alloc ?_ _)); refine blk_put (cs := #[.int .i64 ((rd_T39 (rd_L2 t389 a2) x33_1).f0), .int .i64 0, .int .i64 0]) ?_ 1 _ rfl; (with_reducible repeat (first | refine blk_drewN ?_ _ | refine blk_drew ?_ | refine blk_alloc ?_ _)); refine blk_put (cs := #[.int .i64 0, .int .i64 0, .int .i64 0]) ?_ 0 _ rfl; (with_reducible repeat (first | refine blk_drewN ?_ _ | refine blk_drew ?_ | refine blk_alloc ?_ _)); exact BK395.out) hb); have n3_ := lB hb; clear HO_31; clear BK387; clear BK395; clear HB; have HO_31 := n0_; have BK387 := n1_; have BK395 := n2_; have HB := n3_; clear n0_ n1_ n2_ n3_; (try clear hb); (try clear hb2); (try clear hk); (try clear hi)))
          go_roundg k1
          case measure => have := HK1.out; omega
          case rel => exact ⟨(wrap64 (x11_1 + 1)), (wrap64 (x33_1 + 1)), hB, hB, H', ⟨by have := HK1.out; omega⟩, ⟨by (with_reducible repeat (first | apply Kd.V_alloc | apply Kd.V_drewN | apply Kd.V_drew)); exact Kd.V_mono HO_31.out (fun _ hk => hk.1)⟩, ⟨bkA BK387⟩, ⟨blA⟩⟩
         ·
          replace c18 := Bool.eq_false_iff.mpr c18
          subst c18
          rw [if_neg (show ¬ (false = true) by decide)] at H
          try dsimp only at H
          have H' := Aside0.mk H
          clear H
          have p394 : 0 ≤ (x33_1 : Int) := dA
          have q394 : x33_1 < ((rd_L2 t389 a2).length : Int) := dA
          obtain ⟨ad394, e394, hx394_0, hx394_1, hx394_2⟩ := at_T39 (Kd.V_reads' HO_31.out).2.2 x33_1 p394 q394
          cases e394
          replace p394 := eq_true p394
          replace q394 := eq_true q394
          go_wp2_with (first | ((with_reducible refine gate_dst (N := 13) rfl ?_); refine box_event ?hg (N := 13) ?hd (cs := #[.int .i64 0, .int .i64 0, .int .i64 0]) (t := 39) ?hr ?_; (case hd => rfl); (case hg => rfl); (case hr => first | (go_simp; done) | (go_simp; rfl)); intro gb395 hg w24 hbox hb; have n0_ := Aside0.mk (Kd.V_below (Kd.V_elderB (rV HO_31) gb395 (Nat.le_of_eq hg.symm)) hb); have n1_ := kB BK387 hb; have n2_ := lB hb; have n3_ := Aside0.mk (hbox); have n4_ := sA hg; have n5_ := sA hg; have n6_ := nA hg BK387; have n7_ := nB hg BK387; clear HO_31; clear BK387; clear HB; have HO_31 := n0_; have BK387 := n1_; have HB := n2_; have BK395 := n3_; have GW395 := n4_; have GE395 := n5_; have NB387_395 := n6_; have NB395_387 := n7_; clear n0_ n1_ n2_ n3_ n4_ n5_ n6_ n7_; clear hb hbox hg; have hnb25 := NB395_387.out; have hnc25 := NB387_395.out; have hcz26_0 : w24.cell? ⟨gb395, 0, none⟩ = some (.int .i64 0) := cA BK395 0; have hcz26_1 : w24.cell? ⟨gb395, 1, none⟩ = some (.int .i64 0) := cA BK395 1; have hcz26_2 : w24.cell? ⟨gb395, 2, none⟩ = some (.int .i64 0) := cA BK395 2; have hfz26_0 := blk_frozen BK395.out 0; have hfz26_1 := blk_frozen BK395.out 1; have hfz26_2 := blk_frozen BK395.out 2; have hcz27_0 : w24.cell? ⟨gb387, 0, none⟩ = some (.int .i64 a1_0) := cA BK387 0; have hcz27_1 : w24.cell? ⟨gb387, 1, none⟩ = some (.int .i64 a1_1) := cA BK387 1; have hcz27_2 : w24.cell? ⟨gb387, 2, none⟩ = some (.int .i64 a1_2) := cA BK387 2; have hcz27_3 : w24.cell? ⟨gb387, 3, none⟩ = some (.int .i64 a1_3) := cA BK387 3; have hfz27_0 := blk_frozen BK387.out 0; have hfz27_1 := blk_frozen BK387.out 1; have hfz27_2 := blk_frozen BK387.out 2; have hfz27_3 := blk_frozen BK387.out 3) | ((with_reducible refine gate_callee (f := 66) rfl ?_); refine goesL_ (some 40) rfl rfl Try.func66 (by kernel_rfl) rfl #[.int .i64 a0, .agg #[.int .i64 a1_0, .int .i64 a1_1, .int .i64 a1_2, .int .i64 a1_3], .agg #[.int .i64 ((rd_T39 (rd_L2 t389 a2) x33_1).f0), .int .i64 ((rd_T39 (rd_L2 t389 a2) x33_1).f1), .int .i64 ((rd_T39 (rd_L2 t389 a2) x33_1).f2)]] rfl hA ?_; (with_reducible refine (impl_keeps.calls k1 a0 a1_0 a1_1 a1_2 a1_3 ((rd_T39 (rd_L2 t389 a2) x33_1).f0) ((rd_T39 (rd_L2 t389 a2) x33_1).f1) ((rd_T39 (rd_L2 t389 a2) x33_1).f2) false _ A17.out).mono ?_); rintro e w28 ⟨rfl, hb⟩; refine ⟨_, rfl, ?_⟩; have n0_ := Aside0.mk (Kd.V_below (by (with_reducible repeat (first | apply Kd.V_alloc | apply Kd.V_drewN | apply Kd.V_drew)); exact (Kd.V_mono (Kd.V_far (p := ⟨gb395, 2, none⟩) (Kd.V_far (p := ⟨gb395, 1, none⟩) (Kd.V_far (p := ⟨gb395, 0, none⟩) (Kd.V_mono HO_31.out (fun k_ hk => (⟨hk, hk.2⟩ : _ ∧ k_ ≠ gb395))) (fun _ hk => hk.2) (.int .i64 ((rd_T39 (rd_L2 t389 a2) x33_1).f0))) (fun _ hk => hk.2) (.int .i64 ((rd_T39 (rd_L2 t389 a2) x33_1).f1))) (fun _ hk => hk.2) (.int .i64 ((rd_T39 (rd_L2 t389 a2) x33_1).f2))) (fun _ h_ => h_.1))) hb); have n1_ := Aside0.mk (blk_below (g := gb387) (o := .cells #[.int .i64 a1_0, .int .i64 a1_1, .int .i64 a1_2, .int .i64 a1_3] 26 (0, 0)) (bkF BK387) hb); have n2_ := Aside0.mk (blk_below (g := gb395) (o := .cells #[.int .i64 ((rd_T39 (rd_L2 t389 a2) x33_1).f0), .int .i64 ((rd_T39 (rd_L2 t389 a2) x33_1).f1), .int .i64 ((rd_T39 (rd_L2 t389 a2) x33_1).f2)] 39 (0, 0)) (by (with_reducible repeat (first | refine blk_drewN ?_ _ | refine blk_drew ?_ | refine blk_alloc ?_ _)); refine blk_put (cs := #[.int .i64 ((rd_T39 (rd_L2 t389 a2) x33_1).f0), .int .i64 ((rd_T39 (rd_L2 t389 a2) x33_1).f1), .int .i64 0]) ?_ 2 _ rfl; (with_reducible repeat (first | refine blk_drewN ?_ _ | refine blk_drew ?_ | refine blk_alloc ?_ _)); refine blk_put (cs := #[.int .i64 ((rd_T39 (rd_L2 t389 a2) x33_1).f0), .int .i64 0, .int .i64 0]) ?_ 1 _ rfl; (with_reducible repeat (first | refine blk_drewN ?_ _ | refine blk_drew ?_ | refine blk_alloc ?_ _)); refine blk_put (cs := #[.int .i64 0, .int .i64 0, .int .i64 0]) ?_ 0 _ rfl; (with_reducible repeat (first | refine blk_drewN ?_ _ | refine blk_drew ?_ | refine blk_alloc ?_ _)); exact BK395.out) hb); have n3_ := lB hb; clear HO_31; clear BK387; clear BK395; clear HB; have HO_31 := n0_; have BK387 := n1_; have BK395 := n2_; have HB := n3_; clear n0_ n1_ n2_ n3_; (try clear hb); (try clear hb2); (try clear hk); (try clear hi)))
          go_roundg k1
          case measure => have := HK1.out; omega
          case rel => exact ⟨(x11_1), (wrap64 (x33_1 + 1)), hB, hB, H', ⟨by have := HK1.out; omega⟩, ⟨by (with_reducible repeat (first | apply Kd.V_alloc | apply Kd.V_drewN | apply Kd.V_drew)); exact Kd.V_mono HO_31.out (fun _ hk => hk.1)⟩, ⟨bkA BK387⟩, ⟨blA⟩⟩
        ·
         rw [if_neg c16] at H
         exact absurd H (by simp)
       ·
        rw [if_neg c15] at H
        exact absurd H (by simp)
      ·
       rw [if_neg c14] at H
       have c14b0 := decide_eq_false c14
       clear c14
       simp only [Option.some.injEq, Prod.mk.injEq] at H
       obtain ⟨rfl, rfl⟩ := H
       go_wp2
       go_ret2
       exact finA blA
   ·
    rw [if_neg c8] at H
    exact absurd H (by simp)
  ·
   rw [if_neg c7] at H
   exact absurd H (by simp)
 ·
  rw [if_neg c5] at H
  have c5b0 : (t388 == 0) = false := beq_eq_false_iff_ne.mpr c5
  have c5b1 : (t388 != 0) = true := bne_iff_ne.mpr c5
  simp only [Option.some.injEq, Prod.mk.injEq] at H
  obtain ⟨rfl, rfl⟩ := H
  go_enter Try.func13, Try.ntmps13
  go_wp2_with (first | ((with_reducible refine gate_dst (N := 4) rfl ?_); refine box_event ?hg (N := 4) ?hd (cs := #[.int .i64 a1_0, .int .i64 a1_1, .int .i64 a1_2, .int .i64 a1_3]) (t := 26) ?hr ?_; (case hd => rfl); (case hg => rfl); (case hr => first | (go_simp; done) | (go_simp; rfl)); intro gb387 hg w29 hbox hb; have n0_ := lB hb; have n1_ := Aside0.mk (hbox); have n2_ := sA hg; have n3_ := sA hg; clear HB; have HB := n0_; have BK387 := n1_; have GW387 := n2_; have GE387 := n3_; clear n0_ n1_ n2_ n3_; clear hb hbox hg; have hcz30_0 : w29.cell? ⟨gb387, 0, none⟩ = some (.int .i64 a1_0) := cA BK387 0; have hcz30_1 : w29.cell? ⟨gb387, 1, none⟩ = some (.int .i64 a1_1) := cA BK387 1; have hcz30_2 : w29.cell? ⟨gb387, 2, none⟩ = some (.int .i64 a1_2) := cA BK387 2; have hcz30_3 : w29.cell? ⟨gb387, 3, none⟩ = some (.int .i64 a1_3) := cA BK387 3; have hfz30_0 := blk_frozen BK387.out 0; have hfz30_1 := blk_frozen BK387.out 1; have hfz30_2 := blk_frozen BK387.out 2; have hfz30_3 := blk_frozen BK387.out 3) | ((with_reducible refine gate_callee (f := 64) rfl ?_); refine goesL_ (some 17) rfl rfl Try.func64 (by kernel_rfl) rfl #[.int .i64 a0, .agg #[.int .i64 a1_0, .int .i64 a1_1, .int .i64 a1_2, .int .i64 a1_3], .int .i64 a2] rfl hA ?_; (with_reducible refine (impl_sphereCode.calls k a0 a1_0 a1_1 a1_2 a1_3 a2 t388 _ A4.out).mono ?_); rintro e w31 ⟨rfl, hb⟩; refine ⟨_, rfl, ?_⟩; have n0_ := kB BK387 hb; have n1_ := lB hb; clear BK387; clear HB; have BK387 := n0_; have HB := n1_; clear n0_ n1_; (try clear hb); (try clear hb2); (try clear hk); (try clear hi)))
  go_ret2
  exact finA blA
/-! ### laws_FnExactCountFixedOn: function 3 -/
def laws_FnExactCountFixedOn.f (k : Nat) (a0 : Int) (a1_0 : Int) (a1_1 : Int) (a1_2 : Int) (a1_3 : Int) (a2 : Int) : Option (Bool) := (laws_toMatrix.f a1_0 a1_1 a1_2 a1_3).bind fun bt398 => ((spec_CountFixedOn.f k a0 bt398.1 bt398.2.1 bt398.2.2.1 bt398.2.2.2 a2).bind fun bt402 => ((laws_toMatrix.f a1_0 a1_1 a1_2 a1_3).bind fun bt404 => ((impl_CountFixedOn.f k a0 bt404.1 bt404.2.1 bt404.2.2.1 bt404.2.2.2 a2).bind fun bt408 => (if bt408.1 = bt402.1 then (if bt408.2 = bt402.2 then (some true) else (none)) else (none)))))
theorem laws_FnExactCountFixedOn.mono : ∀ a0 a1 a2 a3 a4 a5 k, LeO (laws_FnExactCountFixedOn.f k a0 a1 a2 a3 a4 a5) (laws_FnExactCountFixedOn.f (k + 1) a0 a1 a2 a3 a4 a5) := by
 intro a0 a1 a2 a3 a4 a5 k
 unfold laws_FnExactCountFixedOn.f
 repeat' first
   | (with_reducible exact impl_CountFixedOn.mono _ _ _ _ _ _ _)
   | (with_reducible exact spec_CountFixedOn.mono _ _ _ _ _ _ _)
   | (with_reducible exact LeO.refl _)
   | (with_reducible exact LeO.none _)
   | (with_reducible refine LeO.ite ?_ ?_)
   | (with_reducible refine LeO.bind ?_ (fun _ => ?_))
   | exact impl_CountFixedOn.mono _ _ _ _ _ _ _
   | exact spec_CountFixedOn.mono _ _ _ _ _ _ _
   | exact LeO.none _
   | refine LeO.ite ?_ ?_
   | refine LeO.bind ?_ (fun _ => ?_)
set_option maxHeartbeats 8000000 in
set_option maxRecDepth 100000 in
theorem laws_FnExactCountFixedOn.calls (k : Nat) (a0 : Int) (a1_0 : Int) (a1_1 : Int) (a1_2 : Int) (a1_3 : Int) (a2 : Int) (r : Bool) (w : World) (h : laws_FnExactCountFixedOn.f k a0 a1_0 a1_1 a1_2 a1_3 a2 = some r) :
  Calls Try.prog 3 #[.int .i64 a0, .agg #[.int .i64 a1_0, .int .i64 a1_1, .int .i64 a1_2, .int .i64 a1_3], .int .i64 a2] w fun e w' => e = .returned (.bool r) ∧ Below w.heap.size w w' := by
 have hu23 := Try.underlying23
 have HB := Aside0.mk (Below.refl w.heap.size w)
 have H := h
 unfold laws_FnExactCountFixedOn.f at H
 clear h
 replace H := bS H
 obtain ⟨⟨t398, t399, t400, t401⟩, A4, H⟩ := H
 try dsimp only at H
 replace H := bS H
 obtain ⟨⟨t402, t403⟩, A5, H⟩ := H
 try dsimp only at H
 replace H := bS H
 obtain ⟨⟨t404, t405, t406, t407⟩, A6, H⟩ := H
 try dsimp only at H
 replace H := bS H
 obtain ⟨⟨t408, t409⟩, A7, H⟩ := H
 try dsimp only at H
 by_cases c8 : t408 = t402
 ·
  rw [if_pos c8] at H
  have c8b0 : (t408 == t402) = true := beq_iff_eq.mpr c8
  have c8b1 : (t408 != t402) = false := bne_eq_false_iff_eq.mpr c8
  clear c8
  by_cases c9 : t409 = t403
  ·
   rw [if_pos c9] at H
   have c9b0 : (t409 == t403) = true := beq_iff_eq.mpr c9
   have c9b1 : (t409 != t403) = false := bne_eq_false_iff_eq.mpr c9
   clear c9
   obtain rfl := Option.some.inj H
   go_enter Try.func3, Try.ntmps3
   go_wp2_with (first | ((with_reducible refine gate_dst (N := 4) rfl ?_); refine box_event ?hg (N := 4) ?hd (cs := #[.int .i64 a1_0, .int .i64 a1_1, .int .i64 a1_2, .int .i64 a1_3]) (t := 23) ?hr ?_; (case hd => rfl); (case hg => rfl); (case hr => first | (go_simp; done) | (go_simp; rfl)); intro gb397 hg w10 hbox hb; have n0_ := lB hb; have n1_ := Aside0.mk (hbox); have n2_ := sA hg; have n3_ := sA hg; clear HB; have HB := n0_; have BK397 := n1_; have GW397 := n2_; have GE397 := n3_; clear n0_ n1_ n2_ n3_; clear hb hbox hg; have hcz11_0 : w10.cell? ⟨gb397, 0, none⟩ = some (.int .i64 a1_0) := cA BK397 0; have hcz11_1 : w10.cell? ⟨gb397, 1, none⟩ = some (.int .i64 a1_1) := cA BK397 1; have hcz11_2 : w10.cell? ⟨gb397, 2, none⟩ = some (.int .i64 a1_2) := cA BK397 2; have hcz11_3 : w10.cell? ⟨gb397, 3, none⟩ = some (.int .i64 a1_3) := cA BK397 3; have hfz11_0 := blk_frozen BK397.out 0; have hfz11_1 := blk_frozen BK397.out 1; have hfz11_2 := blk_frozen BK397.out 2; have hfz11_3 := blk_frozen BK397.out 3) | ((with_reducible refine gate_callee (f := 12) rfl ?_); refine goesL_ (some 14) rfl rfl Try.func12 (by kernel_rfl) rfl #[.agg #[.int .i64 a1_0, .int .i64 a1_1, .int .i64 a1_2, .int .i64 a1_3]] rfl hA ?_; (with_reducible refine (laws_toMatrix.calls a1_0 a1_1 a1_2 a1_3 t398 t399 t400 t401 _ A4.out).mono ?_); rintro e w12 ⟨rfl, hb⟩; refine ⟨_, rfl, ?_⟩; have n0_ := kB BK397 hb; have n1_ := lB hb; clear BK397; clear HB; have BK397 := n0_; have HB := n1_; clear n0_ n1_; (try clear hb); (try clear hb2); (try clear hk); (try clear hi)) | ((with_reducible refine gate_callee (f := 11) rfl ?_); refine goesL_ (some 16) rfl rfl Try.func11 (by kernel_rfl) rfl #[.int .i64 a0, .agg #[.int .i64 t398, .int .i64 t399, .int .i64 t400, .int .i64 t401], .int .i64 a2] rfl hA ?_; (with_reducible refine (spec_CountFixedOn.calls k a0 t398 t399 t400 t401 a2 t402 t403 _ A5.out).mono ?_); rintro e w13 ⟨rfl, hb⟩; refine ⟨_, rfl, ?_⟩; have n0_ := kB BK397 hb; have n1_ := lB hb; clear BK397; clear HB; have BK397 := n0_; have HB := n1_; clear n0_ n1_; (try clear hb); (try clear hb2); (try clear hk); (try clear hi); have hcz14_0 : w13.cell? ⟨gb397, 0, none⟩ = some (.int .i64 a1_0) := cA BK397 0; have hcz14_1 : w13.cell? ⟨gb397, 1, none⟩ = some (.int .i64 a1_1) := cA BK397 1; have hcz14_2 : w13.cell? ⟨gb397, 2, none⟩ = some (.int .i64 a1_2) := cA BK397 2; have hcz14_3 : w13.cell? ⟨gb397, 3, none⟩ = some (.int .i64 a1_3) := cA BK397 3; have hfz14_0 := blk_frozen BK397.out 0; have hfz14_1 := blk_frozen BK397.out 1; have hfz14_2 := blk_frozen BK397.out 2; have hfz14_3 := blk_frozen BK397.out 3) | ((with_reducible refine gate_callee (f := 12) rfl ?_); refine goesL_ (some 22) rfl rfl Try.func12 (by kernel_rfl) rfl #[.agg #[.int .i64 a1_0, .int .i64 a1_1, .int .i64 a1_2, .int .i64 a1_3]] rfl hA ?_; (with_reducible refine (laws_toMatrix.calls a1_0 a1_1 a1_2 a1_3 t404 t405 t406 t407 _ A6.out).mono ?_); rintro e w15 ⟨rfl, hb⟩; refine ⟨_, rfl, ?_⟩; have n0_ := kB BK397 hb; have n1_ := lB hb; clear BK397; clear HB; have BK397 := n0_; have HB := n1_; clear n0_ n1_; (try clear hb); (try clear hb2); (try clear hk); (try clear hi)) | ((with_reducible refine gate_callee (f := 13) rfl ?_); refine goesL_ (some 24) rfl rfl Try.func13 (by kernel_rfl) rfl #[.int .i64 a0, .agg #[.int .i64 t404, .int .i64 t405, .int .i64 t406, .int .i64 t407], .int .i64 a2] rfl hA ?_; (with_reducible refine (impl_CountFixedOn.calls k a0 t404 t405 t406 t407 a2 t408 t409 _ A7.out).mono ?_); rintro e w16 ⟨rfl, hb⟩; refine ⟨_, rfl, ?_⟩; have n0_ := kB BK397 hb; have n1_ := lB hb; clear BK397; clear HB; have BK397 := n0_; have HB := n1_; clear n0_ n1_; (try clear hb); (try clear hb2); (try clear hk); (try clear hi)))
   go_ret
   exact finA blA
  ·
   rw [if_neg c9] at H
   exact absurd H (by simp)
 ·
  rw [if_neg c8] at H
  exact absurd H (by simp)
end Go.Proofs.Ytccpccnnbacgjaa.PAll
