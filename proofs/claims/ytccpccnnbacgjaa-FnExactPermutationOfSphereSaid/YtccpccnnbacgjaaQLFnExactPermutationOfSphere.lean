-- turned for this claim out of the kit's print: the same functions, packed anew
import Derived.Test.YtccpccnnbacgjaaQx
import Derived.Test.YtccpccnnbacgjaaQLheldInt64S
import Derived.Test.YtccpccnnbacgjaaQbitsLeadingZeros64
import Derived.Test.YtccpccnnbacgjaaQimplPermutationOfSphere
import Derived.Test.YtccpccnnbacgjaaQspecPermutationOfSphere
namespace Go.Proofs.Ytccpccnnbacgjaa.PAll
open Go.RowKit Go.Proofs.YtccpccnnbacgjaaW.PrintWords Go.Proofs.YtccpccnnbacgjaaW.PrintLast Go.Proofs.YtccpccnnbacgjaaW.PrintMore
attribute [local go_sem] Go.Proofs.Ytccpccnnbacgjaa.Aux.setCell_drewN Go.Proofs.Ytccpccnnbacgjaa.Aux.isSome_setCell max2_int min2_int max_two min_two max_three min_three max_four min_four   -- for this text's walks alone
set_option linter.unusedVariables false
set_option linter.unusedSimpArgs false
/-! ### laws_FnExactPermutationOfSphere: function 4 -/
mutual
def laws_FnExactPermutationOfSphere.j0 : Nat → Int → Int → List Int → Int → List Int → Bool → Int → Int → Int → Int → Option (Bool)
 | 0, _, _, _, _, _, _, _, _, _, _ => none
 | k + 1, x0, x2, x7, x8, x9, x39, x466000, x466001, x466002, x466003 => if x39 = true then (none) else ((laws_markInt64S.f k x9 1).bind fun bt483 => ((laws_heldInt64S.f k bt483.2 1).bind fun t485 => (if t485 < 0 then (none) else (if t485 = bt483.1 then ((laws_toMatrix.f x466000 x466001 x466002 x466003).bind fun bt486 => ((impl_PermutationOfSphere.f k x0 bt486.1 bt486.2.1 bt486.2.2.1 bt486.2.2.2 x2).bind fun bt490 => ((laws_eqInt64S.f k bt490.1 x7).bind fun t494 => (if t494 = true then (laws_FnExactPermutationOfSphere.j1 k bt483.2 bt483.1 (bt490.2 != x8)) else (laws_FnExactPermutationOfSphere.j1 k bt483.2 bt483.1 true))))) else (none)))))
def laws_FnExactPermutationOfSphere.j1 : Nat → List Int → Int → Bool → Option (Bool)
 | 0, _, _, _ => none
 | k + 1, x9, x11, x67 => if x67 = true then (none) else ((laws_heldInt64S.f k x9 1).bind fun t495 => (if t495 < 0 then (none) else (if t495 = x11 then (some true) else (none))))
end
def laws_FnExactPermutationOfSphere.f (k : Nat) (a0 : Int) (a1_0 : Int) (a1_1 : Int) (a1_2 : Int) (a1_3 : Int) (a2 : Int) : Option (Bool) := (laws_toMatrix.f a1_0 a1_1 a1_2 a1_3).bind fun bt466 => ((spec_PermutationOfSphere.f k a0 bt466.1 bt466.2.1 bt466.2.2.1 bt466.2.2.2 a2).bind fun bt470 => ((laws_toMatrix.f a1_0 a1_1 a1_2 a1_3).bind fun bt474 => ((impl_PermutationOfSphere.f k a0 bt474.1 bt474.2.1 bt474.2.2.1 bt474.2.2.2 a2).bind fun bt478 => ((laws_eqInt64S.f k bt478.1 bt470.1).bind fun t482 => (if t482 = true then (laws_FnExactPermutationOfSphere.j0 k a0 a2 bt470.1 bt470.2 bt478.1 (bt478.2 != bt470.2) a1_0 a1_1 a1_2 a1_3) else (laws_FnExactPermutationOfSphere.j0 k a0 a2 bt470.1 bt470.2 bt478.1 true a1_0 a1_1 a1_2 a1_3))))))
theorem laws_FnExactPermutationOfSphere.mono_l : ∀ k, (∀ y0 y1 y2 y3 y4 y5 y6 y7 y8 y9, LeO (laws_FnExactPermutationOfSphere.j0 k y0 y1 y2 y3 y4 y5 y6 y7 y8 y9) (laws_FnExactPermutationOfSphere.j0 (k + 1) y0 y1 y2 y3 y4 y5 y6 y7 y8 y9)) ∧ (∀ y0 y1 y2, LeO (laws_FnExactPermutationOfSphere.j1 k y0 y1 y2) (laws_FnExactPermutationOfSphere.j1 (k + 1) y0 y1 y2))
 | 0 => ⟨fun _ _ _ _ _ _ _ _ _ _ r h => by simp [laws_FnExactPermutationOfSphere.j0] at h, fun _ _ _ r h => by simp [laws_FnExactPermutationOfSphere.j1] at h⟩
 | k + 1 => by
  obtain ⟨ih0, ih1⟩ := laws_FnExactPermutationOfSphere.mono_l k
  refine ⟨?_, ?_⟩
  ·
   intro y0 y1 y2 y3 y4 y5 y6 y7 y8 y9
   unfold laws_FnExactPermutationOfSphere.j0
   repeat' first
   | (with_reducible exact ih0 _ _ _ _ _ _ _ _ _ _)
   | (with_reducible exact ih1 _ _ _)
   | (with_reducible exact impl_PermutationOfSphere.mono _ _ _ _ _ _ _)
   | (with_reducible exact laws_eqInt64S.mono _ _ _)
   | (with_reducible exact laws_heldInt64S.mono _ _ _)
   | (with_reducible exact laws_markInt64S.mono _ _ _)
   | (with_reducible exact spec_PermutationOfSphere.mono _ _ _ _ _ _ _)
   | (with_reducible exact LeO.refl _)
   | (with_reducible exact LeO.none _)
   | (with_reducible refine LeO.ite ?_ ?_)
   | (with_reducible refine LeO.bind ?_ (fun _ => ?_))
   | exact ih0 _ _ _ _ _ _ _ _ _ _
   | exact ih1 _ _ _
   | exact impl_PermutationOfSphere.mono _ _ _ _ _ _ _
   | exact laws_eqInt64S.mono _ _ _
   | exact laws_heldInt64S.mono _ _ _
   | exact laws_markInt64S.mono _ _ _
   | exact spec_PermutationOfSphere.mono _ _ _ _ _ _ _
   | exact LeO.none _
   | refine LeO.ite ?_ ?_
   | refine LeO.bind ?_ (fun _ => ?_)
  ·
   intro y0 y1 y2
   unfold laws_FnExactPermutationOfSphere.j1
   repeat' first
   | (with_reducible exact ih0 _ _ _ _ _ _ _ _ _ _)
   | (with_reducible exact ih1 _ _ _)
   | (with_reducible exact impl_PermutationOfSphere.mono _ _ _ _ _ _ _)
   | (with_reducible exact laws_eqInt64S.mono _ _ _)
   | (with_reducible exact laws_heldInt64S.mono _ _ _)
   | (with_reducible exact laws_markInt64S.mono _ _ _)
   | (with_reducible exact spec_PermutationOfSphere.mono _ _ _ _ _ _ _)
   | (with_reducible exact LeO.refl _)
   | (with_reducible exact LeO.none _)
   | (with_reducible refine LeO.ite ?_ ?_)
   | (with_reducible refine LeO.bind ?_ (fun _ => ?_))
   | exact ih0 _ _ _ _ _ _ _ _ _ _
   | exact ih1 _ _ _
   | exact impl_PermutationOfSphere.mono _ _ _ _ _ _ _
   | exact laws_eqInt64S.mono _ _ _
   | exact laws_heldInt64S.mono _ _ _
   | exact laws_markInt64S.mono _ _ _
   | exact spec_PermutationOfSphere.mono _ _ _ _ _ _ _
   | exact LeO.none _
   | refine LeO.ite ?_ ?_
   | refine LeO.bind ?_ (fun _ => ?_)
theorem laws_FnExactPermutationOfSphere.mono : ∀ a0 a1 a2 a3 a4 a5 k, LeO (laws_FnExactPermutationOfSphere.f k a0 a1 a2 a3 a4 a5) (laws_FnExactPermutationOfSphere.f (k + 1) a0 a1 a2 a3 a4 a5) := by
 intro a0 a1 a2 a3 a4 a5 k
 obtain ⟨ih0, ih1⟩ := laws_FnExactPermutationOfSphere.mono_l k
 unfold laws_FnExactPermutationOfSphere.f
 repeat' first
   | (with_reducible exact ih0 _ _ _ _ _ _ _ _ _ _)
   | (with_reducible exact ih1 _ _ _)
   | (with_reducible exact impl_PermutationOfSphere.mono _ _ _ _ _ _ _)
   | (with_reducible exact laws_eqInt64S.mono _ _ _)
   | (with_reducible exact laws_heldInt64S.mono _ _ _)
   | (with_reducible exact laws_markInt64S.mono _ _ _)
   | (with_reducible exact spec_PermutationOfSphere.mono _ _ _ _ _ _ _)
   | (with_reducible exact LeO.refl _)
   | (with_reducible exact LeO.none _)
   | (with_reducible refine LeO.ite ?_ ?_)
   | (with_reducible refine LeO.bind ?_ (fun _ => ?_))
   | exact ih0 _ _ _ _ _ _ _ _ _ _
   | exact ih1 _ _ _
   | exact impl_PermutationOfSphere.mono _ _ _ _ _ _ _
   | exact laws_eqInt64S.mono _ _ _
   | exact laws_heldInt64S.mono _ _ _
   | exact laws_markInt64S.mono _ _ _
   | exact spec_PermutationOfSphere.mono _ _ _ _ _ _ _
   | exact LeO.none _
   | refine LeO.ite ?_ ?_
   | refine LeO.bind ?_ (fun _ => ?_)
set_option maxHeartbeats 8000000 in
set_option maxRecDepth 100000 in
theorem laws_FnExactPermutationOfSphere.calls (k : Nat) (a0 : Int) (a1_0 : Int) (a1_1 : Int) (a1_2 : Int) (a1_3 : Int) (a2 : Int) (r : Bool) (w : World) (h : laws_FnExactPermutationOfSphere.f k a0 a1_0 a1_1 a1_2 a1_3 a2 = some r) :
  Calls Try.prog 4 #[.int .i64 a0, .agg #[.int .i64 a1_0, .int .i64 a1_1, .int .i64 a1_2, .int .i64 a1_3], .int .i64 a2] w fun e w' => e = .returned (.bool r) ∧ Below w.heap.size w w' := by
 have hu23 := Try.underlying23
 have HB := Aside0.mk (Below.refl w.heap.size w)
 have H := h
 unfold laws_FnExactPermutationOfSphere.f at H
 clear h
 replace H := bS H
 obtain ⟨⟨t466, t467, t468, t469⟩, A4, H⟩ := H
 try dsimp only at H
 replace H := bS H
 obtain ⟨⟨t470, t473⟩, A5, H⟩ := H
 try dsimp only at H
 replace H := bS H
 obtain ⟨⟨t474, t475, t476, t477⟩, A6, H⟩ := H
 try dsimp only at H
 replace H := bS H
 obtain ⟨⟨t478, t481⟩, A7, H⟩ := H
 try dsimp only at H
 have HC8 := Aside0.mk H
 clear H
 go_enter Try.func4, Try.ntmps4
 go_upto_region 3 with (first | ((with_reducible refine gate_dst (N := 4) rfl ?_); refine box_event ?hg (N := 4) ?hd (cs := #[.int .i64 a1_0, .int .i64 a1_1, .int .i64 a1_2, .int .i64 a1_3]) (t := 23) ?hr ?_; (case hd => rfl); (case hg => rfl); (case hr => first | (go_simp; done) | (go_simp; rfl)); intro gb465 hg w9 hbox hb; have n0_ := lB hb; have n1_ := Aside0.mk (hbox); have n2_ := sA hg; have n3_ := sA hg; clear HB; have HB := n0_; have BK465 := n1_; have GW465 := n2_; have GE465 := n3_; clear n0_ n1_ n2_ n3_; clear hb hbox hg; have hcz10_0 : w9.cell? ⟨gb465, 0, none⟩ = some (.int .i64 a1_0) := cA BK465 0; have hcz10_1 : w9.cell? ⟨gb465, 1, none⟩ = some (.int .i64 a1_1) := cA BK465 1; have hcz10_2 : w9.cell? ⟨gb465, 2, none⟩ = some (.int .i64 a1_2) := cA BK465 2; have hcz10_3 : w9.cell? ⟨gb465, 3, none⟩ = some (.int .i64 a1_3) := cA BK465 3; have hfz10_0 := blk_frozen BK465.out 0; have hfz10_1 := blk_frozen BK465.out 1; have hfz10_2 := blk_frozen BK465.out 2; have hfz10_3 := blk_frozen BK465.out 3) | ((with_reducible refine gate_callee (f := 12) rfl ?_); refine goesL_ (some 18) rfl rfl Try.func12 (by kernel_rfl) rfl #[.agg #[.int .i64 a1_0, .int .i64 a1_1, .int .i64 a1_2, .int .i64 a1_3]] rfl hA ?_; (with_reducible refine (laws_toMatrix.calls a1_0 a1_1 a1_2 a1_3 t466 t467 t468 t469 _ A4.out).mono ?_); rintro e w11 ⟨rfl, hb⟩; refine ⟨_, rfl, ?_⟩; have n0_ := kB BK465 hb; have n1_ := lB hb; clear BK465; clear HB; have BK465 := n0_; have HB := n1_; clear n0_ n1_; (try clear hb); (try clear hb2); (try clear hk); (try clear hi)) | ((with_reducible refine gate_callee (f := 14) rfl ?_); refine goesL_ (some 20) rfl rfl Try.func14 (by kernel_rfl) rfl #[.int .i64 a0, .agg #[.int .i64 t466, .int .i64 t467, .int .i64 t468, .int .i64 t469], .int .i64 a2] rfl hA ?_; (with_reducible refine (spec_PermutationOfSphere.calls k a0 t466 t467 t468 t469 a2 t470 t473 _ A5.out).mono ?_); rintro e w12 ⟨v471, rfl, ho0, hb⟩; refine ⟨_, rfl, ?_⟩; have n0_ := Aside0.mk (Kd.R_lower ho0 (below_size blA)); have n1_ := kB BK465 hb; have n2_ := lB hb; clear BK465; clear HB; have HO472 := n0_; have BK465 := n1_; have HB := n2_; clear n0_ n1_ n2_; (try clear hb); (try clear hb2); (try clear hk); (try clear hi); (try clear ho0); have hcz13_0 : w12.cell? ⟨gb465, 0, none⟩ = some (.int .i64 a1_0) := cA BK465 0; have hcz13_1 : w12.cell? ⟨gb465, 1, none⟩ = some (.int .i64 a1_1) := cA BK465 1; have hcz13_2 : w12.cell? ⟨gb465, 2, none⟩ = some (.int .i64 a1_2) := cA BK465 2; have hcz13_3 : w12.cell? ⟨gb465, 3, none⟩ = some (.int .i64 a1_3) := cA BK465 3; have hfz13_0 := blk_frozen BK465.out 0; have hfz13_1 := blk_frozen BK465.out 1; have hfz13_2 := blk_frozen BK465.out 2; have hfz13_3 := blk_frozen BK465.out 3) | ((with_reducible refine gate_callee (f := 12) rfl ?_); refine goesL_ (some 26) rfl rfl Try.func12 (by kernel_rfl) rfl #[.agg #[.int .i64 a1_0, .int .i64 a1_1, .int .i64 a1_2, .int .i64 a1_3]] rfl hA ?_; (with_reducible refine (laws_toMatrix.calls a1_0 a1_1 a1_2 a1_3 t474 t475 t476 t477 _ A6.out).mono ?_); rintro e w14 ⟨rfl, hb⟩; refine ⟨_, rfl, ?_⟩; have n0_ := Aside0.mk (Kd.R_below (rA HO472) hb); have n1_ := kB BK465 hb; have n2_ := lB hb; clear HO472; clear BK465; clear HB; have HO472 := n0_; have BK465 := n1_; have HB := n2_; clear n0_ n1_ n2_; (try clear hb); (try clear hb2); (try clear hk); (try clear hi)) | ((with_reducible refine gate_callee (f := 15) rfl ?_); refine goesL_ (some 28) rfl rfl Try.func15 (by kernel_rfl) rfl #[.int .i64 a0, .agg #[.int .i64 t474, .int .i64 t475, .int .i64 t476, .int .i64 t477], .int .i64 a2] rfl hA ?_; (with_reducible refine (impl_PermutationOfSphere.calls k a0 t474 t475 t476 t477 a2 t478 t481 _ A7.out).mono ?_); rintro e w15 ⟨v479, rfl, ho0, hb⟩; refine ⟨_, rfl, ?_⟩; have n0_ := Aside0.mk (Kd.R_elder' (rA HO472) (Kd.R_base ho0) hb); have n1_ := Aside0.mk (Kd.R_lower (Kd.R_new' ho0 (Kd.R_lt (rA HO472))) (below_size blA)); have n2_ := kB BK465 hb; have n3_ := lB hb; clear HO472; clear BK465; clear HB; have HO472 := n0_; have HO480 := n1_; have BK465 := n2_; have HB := n3_; clear n0_ n1_ n2_ n3_; (try clear hb); (try clear hb2); (try clear hk); (try clear hi); (try clear ho0)))
 (try simp only [Act.put, List.setIfInBounds_toArray, List.set_cons_zero, List.set_cons_succ])
 go_cut [39] (fun v39 wc => ∃ (kq : Nat) (x39_7 : Bool), v39 = .bool x39_7 ∧ Aside0 (laws_FnExactPermutationOfSphere.j0 kq a0 a2 t470 t473 t478 x39_7 a1_0 a1_1 a1_2 a1_3 = some r) ∧ Aside0 (kq ≤ k) ∧ Aside0 (Kd.R (Kd.int .i64) 2 wc w.heap.size (fun k_ => some k_ ≠ (v479 : Value).ownBlock) v471 t470) ∧ Aside0 (Kd.R (Kd.int .i64) 2 wc w.heap.size (fun k_ => some k_ ≠ (v471 : Value).ownBlock) v479 t478) ∧ Aside0 (wc.heap[gb465]? = some (.cells #[.int .i64 a1_0, .int .i64 a1_1, .int .i64 a1_2, .int .i64 a1_3] 23 (0, 0))) ∧ Aside0 (Below w.heap.size w wc))
 case first =>
  have H := HC8.out
  clear HC8
  replace H := bS H
  obtain ⟨t482, A16, H⟩ := H
  try dsimp only at H
  by_cases c17 : t482 = true
  ·
   subst c17
   rw [if_pos rfl] at H
   try dsimp only at H
   have H' := Aside0.mk H
   clear H
   obtain ⟨Ao18, co18, eo18⟩ := Kd.R_slice HO480.out
   subst eo18
   obtain ⟨Ao19, co19, eo19⟩ := Kd.R_slice HO472.out
   subst eo19
   go_wp2_with (first | ((with_reducible refine gate_callee (f := 16) rfl ?_); refine goesL_ (some 33) rfl rfl Try.func16 (by kernel_rfl) rfl #[.slice Ao18 t478.length co18, .slice Ao19 t470.length co19] rfl hA ?_; (with_reducible refine (laws_eqInt64S.calls k _ _ t478 _ _ t470 true _ ?side1 ?side2 ?side3 ?side4 A16.out).mono ?_); (case side1 => repeat (first | exact (Kd.R_reads' HO480.out).2.2 | (with_reducible refine Kd.C_alloc ?_ _) | (with_reducible refine Kd.C_drewN ?_ _) | (with_reducible refine Kd.C_drew ?_))); (case side2 => exact (Kd.R_reads' HO480.out).2.1); (case side3 => repeat (first | exact (Kd.R_reads' HO472.out).2.2 | (with_reducible refine Kd.C_alloc ?_ _) | (with_reducible refine Kd.C_drewN ?_ _) | (with_reducible refine Kd.C_drew ?_))); (case side4 => exact (Kd.R_reads' HO472.out).2.1); rintro e w' ⟨rfl, ⟨nd, rfl⟩⟩; refine ⟨_, rfl, ?_⟩))
   go_meet
   case rel => exact ⟨_, ((t481 != t473)), hB, H', ⟨by first | omega | exact Nat.le_refl _⟩, ⟨by (with_reducible repeat (first | apply Kd.R_alloc | apply Kd.R_drewN | apply Kd.R_drew)); exact Kd.R_mono HO472.out (fun _ hk => hk.2)⟩, ⟨by (with_reducible repeat (first | apply Kd.R_alloc | apply Kd.R_drewN | apply Kd.R_drew)); exact Kd.R_mono HO480.out (fun _ hk => hk.2)⟩, ⟨bkA BK465⟩, ⟨blA⟩⟩
  ·
   replace c17 := Bool.eq_false_iff.mpr c17
   subst c17
   rw [if_neg (show ¬ (false = true) by decide)] at H
   try dsimp only at H
   have H' := Aside0.mk H
   clear H
   obtain ⟨Ao20, co20, eo20⟩ := Kd.R_slice HO480.out
   subst eo20
   obtain ⟨Ao21, co21, eo21⟩ := Kd.R_slice HO472.out
   subst eo21
   go_wp2_with (first | ((with_reducible refine gate_callee (f := 16) rfl ?_); refine goesL_ (some 33) rfl rfl Try.func16 (by kernel_rfl) rfl #[.slice Ao20 t478.length co20, .slice Ao21 t470.length co21] rfl hA ?_; (with_reducible refine (laws_eqInt64S.calls k _ _ t478 _ _ t470 false _ ?side1 ?side2 ?side3 ?side4 A16.out).mono ?_); (case side1 => repeat (first | exact (Kd.R_reads' HO480.out).2.2 | (with_reducible refine Kd.C_alloc ?_ _) | (with_reducible refine Kd.C_drewN ?_ _) | (with_reducible refine Kd.C_drew ?_))); (case side2 => exact (Kd.R_reads' HO480.out).2.1); (case side3 => repeat (first | exact (Kd.R_reads' HO472.out).2.2 | (with_reducible refine Kd.C_alloc ?_ _) | (with_reducible refine Kd.C_drewN ?_ _) | (with_reducible refine Kd.C_drew ?_))); (case side4 => exact (Kd.R_reads' HO472.out).2.1); rintro e w' ⟨rfl, ⟨nd, rfl⟩⟩; refine ⟨_, rfl, ?_⟩))
   go_meet
   case rel => exact ⟨_, (true), hB, H', ⟨by first | omega | exact Nat.le_refl _⟩, ⟨by (with_reducible repeat (first | apply Kd.R_alloc | apply Kd.R_drewN | apply Kd.R_drew)); exact Kd.R_mono HO472.out (fun _ hk => hk.2)⟩, ⟨by (with_reducible repeat (first | apply Kd.R_alloc | apply Kd.R_drewN | apply Kd.R_drew)); exact Kd.R_mono HO480.out (fun _ hk => hk.2)⟩, ⟨bkA BK465⟩, ⟨blA⟩⟩
 case rest =>
  clear HC8
  try clear c1
  try clear p2
  try clear c4
  try clear c12
  try clear c14
  try clear c15
  try clear c16
  try clear c17
  try clear hcz10_0
  try clear hcz10_1
  try clear hcz10_2
  try clear hcz10_3
  try clear hcz13_0
  try clear hcz13_1
  try clear hcz13_2
  try clear hcz13_3
  try clear hfz10_0
  try clear hfz10_1
  try clear hfz10_2
  try clear hfz10_3
  try clear hfz13_0
  try clear hfz13_1
  try clear hfz13_2
  try clear hfz13_3
  obtain ⟨kq, x39_7, rfl, HA, HJ7, HO_7, HO_9, BK465, HB⟩ := hcut
  cases kq with
  | zero => exact absurd HA.out (by simp [laws_FnExactPermutationOfSphere.j0])
  | succ kj7 =>
   have H := HA.out
   clear HA
   simp only [laws_FnExactPermutationOfSphere.j0] at H
   by_cases c22 : x39_7 = true
   ·
    subst c22
    rw [if_pos rfl] at H
    try dsimp only at H
    exact absurd H (by simp)
   ·
    replace c22 := Bool.eq_false_iff.mpr c22
    subst c22
    rw [if_neg (show ¬ (false = true) by decide)] at H
    try dsimp only at H
    replace H := bS H
    obtain ⟨⟨t483, t484⟩, A23, H⟩ := H
    try dsimp only at H
    replace H := bS H
    obtain ⟨t485, A24, H⟩ := H
    try dsimp only at H
    by_cases c25 : t485 < 0
    ·
     rw [if_pos c25] at H
     exact absurd H (by simp)
    ·
     rw [if_neg c25] at H
     have c25b0 := decide_eq_false c25
     clear c25
     by_cases c26 : t485 = t483
     ·
      rw [if_pos c26] at H
      have c26b0 : (t485 == t483) = true := beq_iff_eq.mpr c26
      have c26b1 : (t485 != t483) = false := bne_eq_false_iff_eq.mpr c26
      clear c26
      replace H := bS H
      obtain ⟨⟨t486, t487, t488, t489⟩, A27, H⟩ := H
      try dsimp only at H
      replace H := bS H
      obtain ⟨⟨t490, t493⟩, A28, H⟩ := H
      try dsimp only at H
      have HC29 := Aside0.mk H
      clear H
      obtain ⟨Ao30, co30, eo30⟩ := Kd.R_slice HO_9.out
      subst eo30
      go_upto_region 14 with (first | ((with_reducible refine gate_callee (f := 17) rfl ?_); refine goesL_ (some 42) rfl rfl Try.func17 (by kernel_rfl) rfl #[.slice Ao30 t478.length co30, .int .i64 1] rfl hA ?_; (with_reducible refine (laws_markInt64S.calls kj7 (fun k_ => some k_ = (.slice Ao30 t478.length co30 : Value).ownBlock) (.slice Ao30 t478.length co30) t478 1 t483 t484 w _ ?side1 ?side2 A23.out).mono ?_); (case side1 => repeat (first | (with_reducible first | exact HB.out | apply below_alloc | apply pw_below_drewN | apply below_drew1 | refine below_set ?_ GE465.out) | exact HB.out)); (case side2 => exact Kd.R_tight rfl HO_9.out); rintro e w31 ⟨rfl, hy0, hb, hkp⟩; refine ⟨_, rfl, ?_⟩; have n0_ := Aside0.mk (Kd.R_mono (ok' := fun k_ => some k_ ≠ (.slice Ao30 t478.length co30 : Value).ownBlock) (Kd.R_keptB (HO_7.out) hkp (fun k_ hk_ hs_ => (hk_) hs_)) (fun k_ hk_ => hk_.1)); have n1_ := Aside0.mk (Kd.R_reok rfl hy0 (fun k_ e_ => HO_9.out.1 k_ e_)); have n2_ := Aside0.mk (blk_kept (bkA BK465) hkp (fun hs_ => (fun e_ => (Kd.R_ne HO_9.out BK465.out (by decide)) e_) hs_)); have n3_ := Aside0.mk (hb); clear HO_7; clear HO_9; clear BK465; clear HB; have HO_7 := n0_; have HO_9 := n1_; have BK465 := n2_; have HB := n3_; clear n0_ n1_ n2_ n3_; (try clear hb); (try clear hkp); (try clear hy0)) | ((with_reducible refine gate_callee (f := 18) rfl ?_); refine goesL_ (some 45) rfl rfl Try.func18 (by kernel_rfl) rfl #[.slice Ao30 t484.length co30, .int .i64 1] rfl (by (try simp only [List.map_toArray, List.map_cons, List.map_nil]); first | done | (rw [show t484.length = t478.length from (Kd.R_reads' HO_9.out).1.symm] <;> rfl) | rfl | (simp only [List.length_drop, List.length_take]; rfl)) ?_; (with_reducible refine (laws_heldInt64S.calls kj7 _ _ t484 1 t485 _ ?side1 ?side2 A24.out).mono ?_); (case side1 => repeat (first | exact (Kd.R_reads' HO_9.out).2.2 | (with_reducible refine Kd.C_alloc ?_ _) | (with_reducible refine Kd.C_drewN ?_ _) | (with_reducible refine Kd.C_drew ?_))); (case side2 => rw [show t484.length = t478.length from (Kd.R_reads' HO_9.out).1.symm]; exact (Kd.R_reads' HO_9.out).2.1); rintro e w' ⟨rfl, ⟨nd, rfl⟩⟩; refine ⟨_, rfl, ?_⟩; have hcz32_0 : w31.cell? ⟨gb465, 0, none⟩ = some (.int .i64 a1_0) := cA BK465 0; have hcz32_1 : w31.cell? ⟨gb465, 1, none⟩ = some (.int .i64 a1_1) := cA BK465 1; have hcz32_2 : w31.cell? ⟨gb465, 2, none⟩ = some (.int .i64 a1_2) := cA BK465 2; have hcz32_3 : w31.cell? ⟨gb465, 3, none⟩ = some (.int .i64 a1_3) := cA BK465 3; have hfz32_0 := blk_frozen BK465.out 0; have hfz32_1 := blk_frozen BK465.out 1; have hfz32_2 := blk_frozen BK465.out 2; have hfz32_3 := blk_frozen BK465.out 3) | ((with_reducible refine gate_callee (f := 12) rfl ?_); refine goesL_ (some 54) rfl rfl Try.func12 (by kernel_rfl) rfl #[.agg #[.int .i64 a1_0, .int .i64 a1_1, .int .i64 a1_2, .int .i64 a1_3]] rfl hA ?_; (with_reducible refine (laws_toMatrix.calls a1_0 a1_1 a1_2 a1_3 t486 t487 t488 t489 _ A27.out).mono ?_); rintro e w33 ⟨rfl, hb⟩; refine ⟨_, rfl, ?_⟩; have n0_ := Aside0.mk (Kd.R_below (rA HO_7) hb); have n1_ := Aside0.mk (Kd.R_below (rA HO_9) hb); have n2_ := kB BK465 hb; have n3_ := lB hb; clear HO_7; clear HO_9; clear BK465; clear HB; have HO_7 := n0_; have HO_9 := n1_; have BK465 := n2_; have HB := n3_; clear n0_ n1_ n2_ n3_; (try clear hb); (try clear hb2); (try clear hk); (try clear hi)) | ((with_reducible refine gate_callee (f := 15) rfl ?_); refine goesL_ (some 56) rfl rfl Try.func15 (by kernel_rfl) rfl #[.int .i64 a0, .agg #[.int .i64 t486, .int .i64 t487, .int .i64 t488, .int .i64 t489], .int .i64 a2] rfl hA ?_; (with_reducible refine (impl_PermutationOfSphere.calls kj7 a0 t486 t487 t488 t489 a2 t490 t493 _ A28.out).mono ?_); rintro e w34 ⟨v491, rfl, ho0, hb⟩; refine ⟨_, rfl, ?_⟩; have n0_ := Aside0.mk (Kd.R_elder' (rA HO_7) (Kd.R_base ho0) hb); have n1_ := Aside0.mk (Kd.R_elder' (rA HO_9) (Kd.R_base ho0) hb); have n2_ := Aside0.mk (Kd.R_lower (Kd.R_new' (Kd.R_new' ho0 (Kd.R_lt (rA HO_7))) (Kd.R_lt (rA HO_9))) (below_size blA)); have n3_ := kB BK465 hb; have n4_ := lB hb; clear HO_7; clear HO_9; clear BK465; clear HB; have HO_7 := n0_; have HO_9 := n1_; have HO492 := n2_; have BK465 := n3_; have HB := n4_; clear n0_ n1_ n2_ n3_ n4_; (try clear hb); (try clear hb2); (try clear hk); (try clear hi); (try clear ho0)))
      (try simp only [Act.put, List.setIfInBounds_toArray, List.set_cons_zero, List.set_cons_succ])
      go_cut [67] (fun v67 wc => ∃ (kq : Nat) (x67_28 : Bool), v67 = .bool x67_28 ∧ Aside0 (laws_FnExactPermutationOfSphere.j1 kq t484 t483 x67_28 = some r) ∧ Aside0 (kq ≤ kj7) ∧ Aside0 (Kd.R (Kd.int .i64) 2 wc w.heap.size (fun _ => True) (.slice Ao30 t478.length co30) t484) ∧ Aside0 (wc.heap[gb465]? = some (.cells #[.int .i64 a1_0, .int .i64 a1_1, .int .i64 a1_2, .int .i64 a1_3] 23 (0, 0))) ∧ Aside0 (Below w.heap.size w wc))
      case first =>
       have H := HC29.out
       clear HC29
       replace H := bS H
       obtain ⟨t494, A35, H⟩ := H
       try dsimp only at H
       by_cases c36 : t494 = true
       ·
        subst c36
        rw [if_pos rfl] at H
        try dsimp only at H
        have H' := Aside0.mk H
        clear H
        obtain ⟨Ao37, co37, eo37⟩ := Kd.R_slice HO492.out
        subst eo37
        obtain ⟨Ao38, co38, eo38⟩ := Kd.R_slice HO_7.out
        subst eo38
        go_wp2_with (first | ((with_reducible refine gate_callee (f := 16) rfl ?_); refine goesL_ (some 61) rfl rfl Try.func16 (by kernel_rfl) rfl #[.slice Ao37 t490.length co37, .slice Ao38 t470.length co38] rfl hA ?_; (with_reducible refine (laws_eqInt64S.calls kj7 _ _ t490 _ _ t470 true _ ?side1 ?side2 ?side3 ?side4 A35.out).mono ?_); (case side1 => repeat (first | exact (Kd.R_reads' HO492.out).2.2 | (with_reducible refine Kd.C_alloc ?_ _) | (with_reducible refine Kd.C_drewN ?_ _) | (with_reducible refine Kd.C_drew ?_))); (case side2 => exact (Kd.R_reads' HO492.out).2.1); (case side3 => repeat (first | exact (Kd.R_reads' HO_7.out).2.2 | (with_reducible refine Kd.C_alloc ?_ _) | (with_reducible refine Kd.C_drewN ?_ _) | (with_reducible refine Kd.C_drew ?_))); (case side4 => exact (Kd.R_reads' HO_7.out).2.1); rintro e w' ⟨rfl, ⟨nd, rfl⟩⟩; refine ⟨_, rfl, ?_⟩))
        go_meet
        case rel => exact ⟨_, ((t493 != t473)), hB, H', ⟨by have := HJ7.out; first | omega | exact Nat.le_refl _⟩, ⟨by (with_reducible repeat (first | apply Kd.R_alloc | apply Kd.R_drewN | apply Kd.R_drew)); exact Kd.R_mono HO_9.out (fun _ hk => trivial)⟩, ⟨bkA BK465⟩, ⟨blA⟩⟩
       ·
        replace c36 := Bool.eq_false_iff.mpr c36
        subst c36
        rw [if_neg (show ¬ (false = true) by decide)] at H
        try dsimp only at H
        have H' := Aside0.mk H
        clear H
        obtain ⟨Ao39, co39, eo39⟩ := Kd.R_slice HO492.out
        subst eo39
        obtain ⟨Ao40, co40, eo40⟩ := Kd.R_slice HO_7.out
        subst eo40
        go_wp2_with (first | ((with_reducible refine gate_callee (f := 16) rfl ?_); refine goesL_ (some 61) rfl rfl Try.func16 (by kernel_rfl) rfl #[.slice Ao39 t490.length co39, .slice Ao40 t470.length co40] rfl hA ?_; (with_reducible refine (laws_eqInt64S.calls kj7 _ _ t490 _ _ t470 false _ ?side1 ?side2 ?side3 ?side4 A35.out).mono ?_); (case side1 => repeat (first | exact (Kd.R_reads' HO492.out).2.2 | (with_reducible refine Kd.C_alloc ?_ _) | (with_reducible refine Kd.C_drewN ?_ _) | (with_reducible refine Kd.C_drew ?_))); (case side2 => exact (Kd.R_reads' HO492.out).2.1); (case side3 => repeat (first | exact (Kd.R_reads' HO_7.out).2.2 | (with_reducible refine Kd.C_alloc ?_ _) | (with_reducible refine Kd.C_drewN ?_ _) | (with_reducible refine Kd.C_drew ?_))); (case side4 => exact (Kd.R_reads' HO_7.out).2.1); rintro e w' ⟨rfl, ⟨nd, rfl⟩⟩; refine ⟨_, rfl, ?_⟩))
        go_meet
        case rel => exact ⟨_, (true), hB, H', ⟨by have := HJ7.out; first | omega | exact Nat.le_refl _⟩, ⟨by (with_reducible repeat (first | apply Kd.R_alloc | apply Kd.R_drewN | apply Kd.R_drew)); exact Kd.R_mono HO_9.out (fun _ hk => trivial)⟩, ⟨bkA BK465⟩, ⟨blA⟩⟩
      case rest =>
       clear HC29
       try clear c1
       try clear c2
       try clear p2
       try clear c3
       try clear c4
       try clear c12
       try clear c14
       try clear c15
       try clear c16
       try clear c17
       try clear c18
       try clear c22
       try clear c25
       try clear c25b0
       try clear c26
       try clear c26b0
       try clear c26b1
       try clear c36
       try clear hcz10_0
       try clear hcz10_1
       try clear hcz10_2
       try clear hcz10_3
       try clear hcz13_0
       try clear hcz13_1
       try clear hcz13_2
       try clear hcz13_3
       try clear hcz32_0
       try clear hcz32_1
       try clear hcz32_2
       try clear hcz32_3
       try clear hfz10_0
       try clear hfz10_1
       try clear hfz10_2
       try clear hfz10_3
       try clear hfz13_0
       try clear hfz13_1
       try clear hfz13_2
       try clear hfz13_3
       try clear hfz32_0
       try clear hfz32_1
       try clear hfz32_2
       try clear hfz32_3
       try clear p2
       obtain ⟨kq, x67_28, rfl, HA, HJ28, HO_9, BK465, HB⟩ := hcut
       have hl9_28 := (Kd.R_reads' HO_9.out).1
       rw [hl9_28] at HO_9
       (try simp only [hl9_28])
       (try simp only [hl9_28] at BK465)
       cases kq with
       | zero => exact absurd HA.out (by simp [laws_FnExactPermutationOfSphere.j1])
       | succ kj28 =>
        have H := HA.out
        clear HA
        simp only [laws_FnExactPermutationOfSphere.j1] at H
        by_cases c41 : x67_28 = true
        ·
         subst c41
         rw [if_pos rfl] at H
         try dsimp only at H
         exact absurd H (by simp)
        ·
         replace c41 := Bool.eq_false_iff.mpr c41
         subst c41
         rw [if_neg (show ¬ (false = true) by decide)] at H
         try dsimp only at H
         replace H := bS H
         obtain ⟨t495, A42, H⟩ := H
         try dsimp only at H
         by_cases c43 : t495 < 0
         ·
          rw [if_pos c43] at H
          exact absurd H (by simp)
         ·
          rw [if_neg c43] at H
          have c43b0 := decide_eq_false c43
          clear c43
          by_cases c44 : t495 = t483
          ·
           rw [if_pos c44] at H
           have c44b0 : (t495 == t483) = true := beq_iff_eq.mpr c44
           have c44b1 : (t495 != t483) = false := bne_eq_false_iff_eq.mpr c44
           clear c44
           obtain rfl := Option.some.inj H
           go_wp2_with (first | ((with_reducible refine gate_callee (f := 18) rfl ?_); refine goesL_ (some 70) rfl rfl Try.func18 (by kernel_rfl) rfl #[.slice Ao30 t484.length co30, .int .i64 1] rfl hA ?_; (with_reducible refine (laws_heldInt64S.calls kj28 _ _ t484 1 t495 _ ?side1 ?side2 A42.out).mono ?_); (case side1 => repeat (first | exact (Kd.R_reads' HO_9.out).2.2 | (with_reducible refine Kd.C_alloc ?_ _) | (with_reducible refine Kd.C_drewN ?_ _) | (with_reducible refine Kd.C_drew ?_))); (case side2 => exact (Kd.R_reads' HO_9.out).2.1); rintro e w' ⟨rfl, ⟨nd, rfl⟩⟩; refine ⟨_, rfl, ?_⟩))
           go_ret
           exact finA blA
          ·
           rw [if_neg c44] at H
           exact absurd H (by simp)
     ·
      rw [if_neg c26] at H
      exact absurd H (by simp)
end Go.Proofs.Ytccpccnnbacgjaa.PAll
