-- turned for this claim out of the kit's print: the same functions, packed anew
import Derived.Test.YtccpccnnbacgjaaQx
import Derived.Test.YtccpccnnbacgjaaQLtoBall
namespace Go.Proofs.Ytccpccnnbacgjaa.PAll
open Go.RowKit Go.Proofs.YtccpccnnbacgjaaW.PrintWords Go.Proofs.YtccpccnnbacgjaaW.PrintLast Go.Proofs.YtccpccnnbacgjaaW.PrintMore
attribute [local go_sem] Go.Proofs.Ytccpccnnbacgjaa.Aux.setCell_drewN Go.Proofs.Ytccpccnnbacgjaa.Aux.isSome_setCell max2_int min2_int max_two min_two max_three min_three max_four min_four   -- for this text's walks alone
set_option linter.unusedVariables false
set_option linter.unusedSimpArgs false
/-! ### spec_l01Of: function 119 -/
def spec_l01Of.f (k : Nat) (a0 : Int) (a1 : Int) (a2 : Int) (a3 : Int) : Option (Int × Int × Int × Bool) := (spec_l01In.f a3 (-6) 6).bind fun t130 => (if t130 = true then (if a1 = 0 then (some (a3, 0, 0, true)) else ((spec_l01Val.f k a0 a1).bind fun t132 => ((spec_l01Val.f k a0 a2).bind fun t133 => (if a3 ≤ (wrap64 (t132 - t133)) then (some (a3, 0, 0, true)) else (if (mx (wrap64 (t133 - t132)) 0) > 6 then (some (0, 0, 0, false)) else ((spec_l01Power.f k a0 (wrap64 (a3 + (mx (wrap64 (t133 - t132)) 0)))).bind fun t134 => ((spec_l01Power.f k a0 t132).bind fun t135 => (if t135 = 0 then (none) else ((spec_l01Power.f k a0 t133).bind fun t136 => (if t136 = 0 then (none) else ((spec_l01InvMod.f k (wrap64 (Int.tdiv a2 t136)) t134).bind fun t137 => ((spec_l01MulMod.f (wrap64 (Int.tdiv a1 t135)) t137 t134).bind fun t138 => ((spec_l01Power.f k a0 (mx (wrap64 (t132 - t133)) 0)).bind fun t139 => ((spec_l01MulMod.f t138 t139 t134).bind fun t140 => (some (a3, t140, mx (wrap64 (t133 - t132)) 0, true)))))))))))))))) else (some (0, 0, 0, false)))
theorem spec_l01Of.mono : ∀ a0 a1 a2 a3 k, LeO (spec_l01Of.f k a0 a1 a2 a3) (spec_l01Of.f (k + 1) a0 a1 a2 a3) := by
 intro a0 a1 a2 a3 k
 unfold spec_l01Of.f
 repeat' first
   | (with_reducible exact spec_l01InvMod.mono _ _ _)
   | (with_reducible exact spec_l01Power.mono _ _ _)
   | (with_reducible exact spec_l01Val.mono _ _ _)
   | (with_reducible exact LeO.refl _)
   | (with_reducible exact LeO.none _)
   | (with_reducible refine LeO.ite ?_ ?_)
   | (with_reducible refine LeO.bind ?_ (fun _ => ?_))
set_option maxHeartbeats 8000000 in
set_option maxRecDepth 100000 in
theorem spec_l01Of.calls (k : Nat) (a0 : Int) (a1 : Int) (a2 : Int) (a3 : Int) (r1 : Int) (r2 : Int) (r3 : Int) (r4 : Bool) (w : World) (h : spec_l01Of.f k a0 a1 a2 a3 = some (r1, r2, r3, r4)) :
  Calls Try.prog 119 #[.int .i64 a0, .int .i64 a1, .int .i64 a2, .int .i64 a3] w fun e w' => e = .returned (.tuple #[.agg #[.int .i64 r1, .int .i64 r2, .int .i64 r3], .bool r4]) ∧ Below w.heap.size w w' := by
 have hu39 := Try.underlying39
 have HB := Aside0.mk (Below.refl w.heap.size w)
 have H := h
 unfold spec_l01Of.f at H
 clear h
 replace H := bS H
 obtain ⟨t130, A5, H⟩ := H
 try dsimp only at H
 by_cases c6 : t130 = true
 ·
  subst c6
  rw [if_pos rfl] at H
  try dsimp only at H
  by_cases c7 : a1 = 0
  ·
   rw [if_pos c7] at H
   have c7b0 : (a1 == 0) = true := beq_iff_eq.mpr c7
   have c7b1 : (a1 != 0) = false := bne_eq_false_iff_eq.mpr c7
   clear c7
   simp only [Option.some.injEq, Prod.mk.injEq] at H
   obtain ⟨rfl, rfl, rfl, rfl⟩ := H
   go_enter Try.func119, Try.ntmps119
   go_wp2_with (first | ((with_reducible refine gate_dst (N := 8) rfl ?_); refine box_event ?hg (N := 8) ?hd (cs := #[.int .i64 0, .int .i64 0, .int .i64 0]) (t := 39) ?hr ?_; (case hd => rfl); (case hg => rfl); (case hr => first | (go_simp; done) | (go_simp; rfl)); intro gb129 hg w8 hbox hb; have BK129 := Aside0.mk (hbox); have GW129 := sA hg; have GE129 := sA hg; replace HB := lB hb; clear hb hbox hg) | ((with_reducible refine gate_callee (f := 71) rfl ?_); refine goesL_ (some 15) rfl rfl Try.func71 (by kernel_rfl) rfl #[.int .i64 a3, .int .i64 (-6), .int .i64 6] rfl hA ?_; (with_reducible refine (spec_l01In.calls a3 (-6) 6 true _ A5.out).mono ?_); rintro e w' ⟨rfl, ⟨nd, rfl⟩⟩; refine ⟨_, rfl, ?_⟩; (try (rw [drewN_self w8]; generalize hq_ : World.drewN w8 _ = w8; replace BK129 := Aside0.mk (by rw [← hq_]; exact (bkA BK129)); replace HB := Aside0.mk (by rw [← hq_]; exact blA); clear hq_))) | ((with_reducible refine gate_dst (N := 10) rfl ?_); refine box_event ?hg (N := 10) ?hd (cs := #[.int .i64 0, .int .i64 0, .int .i64 0]) (t := 39) ?hr ?_; (case hd => rfl); (case hg => rfl); (case hr => first | (go_simp; done) | (go_simp; rfl)); intro gb131 hg w9 hbox hb; have BK131 := Aside0.mk (hbox); have GW131 := sA hg; have GE131 := sA hg; have NB129_131 := nA hg BK129; have NB131_129 := nB hg BK129; replace BK129 := kB BK129 hb; replace HB := lB hb; clear hb hbox hg; have hnb10 := NB131_129.out; have hnc10 := NB129_131.out; obtain ⟨hcz11_0, hcz11_1, hcz11_2, hfz11_0, hfz11_1, hfz11_2⟩ := cz3 BK131; obtain ⟨hcz12_0, hcz12_1, hcz12_2, hfz12_0, hfz12_1, hfz12_2⟩ := cz3 BK129))
   refine bodyPost_ret (results_ct rfl _ _ gb129 39 #[.int .i64 a3, .int .i64 0, .int .i64 0] (0, 0) _ rfl (by refine dr ?_; refine blk_put (cs := #[.int .i64 a3, .int .i64 0, .int .i64 0]) ?_ 2 _ rfl; refine dr ?_; refine blk_put (cs := #[.int .i64 a3, .int .i64 0, .int .i64 0]) ?_ 1 _ rfl; refine dr ?_; refine blk_put (cs := #[.int .i64 0, .int .i64 0, .int .i64 0]) ?_ 0 _ rfl; refine dr ?_; refine blk_far ?_ NB129_131.out _; refine dr ?_; refine blk_far ?_ NB129_131.out _; refine dr ?_; refine blk_far ?_ NB129_131.out _; exact bkA BK129) Try.underlying39 rfl (by kernel_rfl)) rfl ?_
   exact finA blA
  ·
   rw [if_neg c7] at H
   have c7b0 : (a1 == 0) = false := beq_eq_false_iff_ne.mpr c7
   have c7b1 : (a1 != 0) = true := bne_iff_ne.mpr c7
   replace H := bS H
   obtain ⟨t132, A13, H⟩ := H
   try dsimp only at H
   replace H := bS H
   obtain ⟨t133, A14, H⟩ := H
   try dsimp only at H
   by_cases c15 : a3 ≤ (wrap64 (t132 - t133))
   ·
    rw [if_pos c15] at H
    have c15b0 := decide_eq_true c15
    clear c15
    simp only [Option.some.injEq, Prod.mk.injEq] at H
    obtain ⟨rfl, rfl, rfl, rfl⟩ := H
    go_enter Try.func119, Try.ntmps119
    go_wp2_with (first | ((with_reducible refine gate_dst (N := 8) rfl ?_); refine box_event ?hg (N := 8) ?hd (cs := #[.int .i64 0, .int .i64 0, .int .i64 0]) (t := 39) ?hr ?_; (case hd => rfl); (case hg => rfl); (case hr => first | (go_simp; done) | (go_simp; rfl)); intro gb129 hg w16 hbox hb; have BK129 := Aside0.mk (hbox); have GW129 := sA hg; have GE129 := sA hg; replace HB := lB hb; clear hb hbox hg) | ((with_reducible refine gate_callee (f := 71) rfl ?_); refine goesL_ (some 15) rfl rfl Try.func71 (by kernel_rfl) rfl #[.int .i64 a3, .int .i64 (-6), .int .i64 6] rfl hA ?_; (with_reducible refine (spec_l01In.calls a3 (-6) 6 true _ A5.out).mono ?_); rintro e w' ⟨rfl, ⟨nd, rfl⟩⟩; refine ⟨_, rfl, ?_⟩; (try (rw [drewN_self w16]; generalize hq_ : World.drewN w16 _ = w16; replace BK129 := Aside0.mk (by rw [← hq_]; exact (bkA BK129)); replace HB := Aside0.mk (by rw [← hq_]; exact blA); clear hq_))) | ((with_reducible refine gate_dst (N := 10) rfl ?_); refine box_event ?hg (N := 10) ?hd (cs := #[.int .i64 0, .int .i64 0, .int .i64 0]) (t := 39) ?hr ?_; (case hd => rfl); (case hg => rfl); (case hr => first | (go_simp; done) | (go_simp; rfl)); intro gb131 hg w17 hbox hb; have BK131 := Aside0.mk (hbox); have GW131 := sA hg; have GE131 := sA hg; have NB129_131 := nA hg BK129; have NB131_129 := nB hg BK129; replace BK129 := kB BK129 hb; replace HB := lB hb; clear hb hbox hg; have hnb18 := NB131_129.out; have hnc18 := NB129_131.out; obtain ⟨hcz19_0, hcz19_1, hcz19_2, hfz19_0, hfz19_1, hfz19_2⟩ := cz3 BK131) | ((with_reducible refine gate_callee (f := 117) rfl ?_); refine goesL_ (some 25) rfl rfl Try.func117 (by kernel_rfl) rfl #[.int .i64 a0, .int .i64 a1] rfl hA ?_; (with_reducible refine (spec_l01Val.calls k a0 a1 t132 _ A13.out).mono ?_); rintro e w' ⟨rfl, ⟨nd, rfl⟩⟩; refine ⟨_, rfl, ?_⟩) | ((with_reducible refine gate_callee (f := 117) rfl ?_); refine goesL_ (some 28) rfl rfl Try.func117 (by kernel_rfl) rfl #[.int .i64 a0, .int .i64 a2] rfl hA ?_; (with_reducible refine (spec_l01Val.calls k a0 a2 t133 _ A14.out).mono ?_); rintro e w' ⟨rfl, ⟨nd, rfl⟩⟩; refine ⟨_, rfl, ?_⟩; obtain ⟨hcz20_0, hcz20_1, hcz20_2, hfz20_0, hfz20_1, hfz20_2⟩ := cz3 BK129))
    refine bodyPost_ret (results_ct rfl _ _ gb129 39 #[.int .i64 a3, .int .i64 0, .int .i64 0] (0, 0) _ rfl (by refine dr ?_; refine blk_put (cs := #[.int .i64 a3, .int .i64 0, .int .i64 0]) ?_ 2 _ rfl; refine dr ?_; refine blk_put (cs := #[.int .i64 a3, .int .i64 0, .int .i64 0]) ?_ 1 _ rfl; refine dr ?_; refine blk_put (cs := #[.int .i64 0, .int .i64 0, .int .i64 0]) ?_ 0 _ rfl; refine dr ?_; refine blk_far ?_ NB129_131.out _; refine dr ?_; refine blk_far ?_ NB129_131.out _; refine dr ?_; refine blk_far ?_ NB129_131.out _; exact bkA BK129) Try.underlying39 rfl (by kernel_rfl)) rfl ?_
    exact finA blA
   ·
    rw [if_neg c15] at H
    have c15b0 := decide_eq_false c15
    clear c15
    obtain ⟨ji21, hji21⟩ : ∃ j_ : Int, (mx (wrap64 (t133 - t132)) 0) = j_ := ⟨_, rfl⟩
    replace H : (if (ji21) > 6 then (some (0, 0, 0, false)) else ((spec_l01Power.f k a0 (wrap64 (a3 + (ji21)))).bind fun t134 => ((spec_l01Power.f k a0 t132).bind fun t135 => (if t135 = 0 then (none) else ((spec_l01Power.f k a0 t133).bind fun t136 => (if t136 = 0 then (none) else ((spec_l01InvMod.f k (wrap64 (Int.tdiv a2 t136)) t134).bind fun t137 => ((spec_l01MulMod.f (wrap64 (Int.tdiv a1 t135)) t137 t134).bind fun t138 => ((spec_l01Power.f k a0 (mx (wrap64 (t132 - t133)) 0)).bind fun t139 => ((spec_l01MulMod.f t138 t139 t134).bind fun t140 => (some (a3, t140, ji21, true)))))))))))) = some (r1, r2, r3, r4) := by first | (rw [hji21] at H; exact H) | (simp only [hji21] at H ⊢; exact H)
    (try rw [hji21] at A5)
    (try rw [hji21] at A13)
    (try rw [hji21] at A14)
    (try (have hji21l : 0 ≤ ji21 := by (rw [← hji21]; unfold mx; (repeat' split) <;> omega)))
    (try (have hji21m : 0 ≤ ji21 := by omega))
    have hji21_ : (if (wrap64 (t133 - t132)) < 0 then 0 else (wrap64 (t133 - t132))) = ji21 := hji21
    by_cases c22 : (ji21) > 6
    ·
     rw [if_pos c22] at H
     have c22b0 : decide (6 < (ji21)) = true := decide_eq_true c22
     clear c22
     simp only [Option.some.injEq, Prod.mk.injEq] at H
     obtain ⟨rfl, rfl, rfl, rfl⟩ := H
     go_enter Try.func119, Try.ntmps119
     go_wp2_with (first | ((with_reducible refine gate_dst (N := 8) rfl ?_); refine box_event ?hg (N := 8) ?hd (cs := #[.int .i64 0, .int .i64 0, .int .i64 0]) (t := 39) ?hr ?_; (case hd => rfl); (case hg => rfl); (case hr => first | (go_simp; done) | (go_simp; rfl)); intro gb129 hg w23 hbox hb; have BK129 := Aside0.mk (hbox); have GW129 := sA hg; have GE129 := sA hg; replace HB := lB hb; clear hb hbox hg) | ((with_reducible refine gate_callee (f := 71) rfl ?_); refine goesL_ (some 15) rfl rfl Try.func71 (by kernel_rfl) rfl #[.int .i64 a3, .int .i64 (-6), .int .i64 6] rfl hA ?_; (with_reducible refine (spec_l01In.calls a3 (-6) 6 true _ A5.out).mono ?_); rintro e w' ⟨rfl, ⟨nd, rfl⟩⟩; refine ⟨_, rfl, ?_⟩; (try (rw [drewN_self w23]; generalize hq_ : World.drewN w23 _ = w23; replace BK129 := Aside0.mk (by rw [← hq_]; exact (bkA BK129)); replace HB := Aside0.mk (by rw [← hq_]; exact blA); clear hq_))) | ((with_reducible refine gate_dst (N := 10) rfl ?_); refine box_event ?hg (N := 10) ?hd (cs := #[.int .i64 0, .int .i64 0, .int .i64 0]) (t := 39) ?hr ?_; (case hd => rfl); (case hg => rfl); (case hr => first | (go_simp; done) | (go_simp; rfl)); intro gb131 hg w24 hbox hb; have BK131 := Aside0.mk (hbox); have GW131 := sA hg; have GE131 := sA hg; have NB129_131 := nA hg BK129; have NB131_129 := nB hg BK129; replace BK129 := kB BK129 hb; replace HB := lB hb; clear hb hbox hg; have hnb25 := NB131_129.out; have hnc25 := NB129_131.out; obtain ⟨hcz26_0, hcz26_1, hcz26_2, hfz26_0, hfz26_1, hfz26_2⟩ := cz3 BK131) | ((with_reducible refine gate_callee (f := 117) rfl ?_); refine goesL_ (some 25) rfl rfl Try.func117 (by kernel_rfl) rfl #[.int .i64 a0, .int .i64 a1] rfl hA ?_; (with_reducible refine (spec_l01Val.calls k a0 a1 t132 _ A13.out).mono ?_); rintro e w' ⟨rfl, ⟨nd, rfl⟩⟩; refine ⟨_, rfl, ?_⟩) | ((with_reducible refine gate_callee (f := 117) rfl ?_); refine goesL_ (some 28) rfl rfl Try.func117 (by kernel_rfl) rfl #[.int .i64 a0, .int .i64 a2] rfl hA ?_; (with_reducible refine (spec_l01Val.calls k a0 a2 t133 _ A14.out).mono ?_); rintro e w' ⟨rfl, ⟨nd, rfl⟩⟩; refine ⟨_, rfl, ?_⟩; obtain ⟨hcz27_0, hcz27_1, hcz27_2, hfz27_0, hfz27_1, hfz27_2⟩ := cz3 BK129))
     refine bodyPost_ret (results_ct rfl _ _ gb129 39 #[.int .i64 0, .int .i64 0, .int .i64 0] (0, 0) _ rfl (by refine dr ?_; refine blk_put (cs := #[.int .i64 0, .int .i64 0, .int .i64 0]) ?_ 2 _ rfl; refine dr ?_; refine blk_put (cs := #[.int .i64 0, .int .i64 0, .int .i64 0]) ?_ 1 _ rfl; refine dr ?_; refine blk_put (cs := #[.int .i64 0, .int .i64 0, .int .i64 0]) ?_ 0 _ rfl; refine dr ?_; refine blk_far ?_ NB129_131.out _; refine dr ?_; refine blk_far ?_ NB129_131.out _; refine dr ?_; refine blk_far ?_ NB129_131.out _; refine dr ?_; refine blk_far ?_ NB129_131.out _; exact bkA BK129) Try.underlying39 rfl (by kernel_rfl)) rfl ?_
     exact ⟨by first | rfl | (simp [errW_none, errW_some] <;> rfl) | (simp only [← hji21]; first | rfl | (simp [errW_none, errW_some] <;> rfl)) | (simp [*, errW_none, errW_some] <;> rfl), blA⟩
    ·
     rw [if_neg c22] at H
     have c22b0 : decide (6 < (ji21)) = false := decide_eq_false c22
     clear c22
     replace H := bS H
     obtain ⟨t134, A28, H⟩ := H
     try dsimp only at H
     replace H := bS H
     obtain ⟨t135, A29, H⟩ := H
     try dsimp only at H
     by_cases c30 : t135 = 0
     ·
      rw [if_pos c30] at H
      exact absurd H (by simp)
     ·
      rw [if_neg c30] at H
      have c30b0 : (t135 == 0) = false := beq_eq_false_iff_ne.mpr c30
      have c30b1 : (t135 != 0) = true := bne_iff_ne.mpr c30
      replace H := bS H
      obtain ⟨t136, A31, H⟩ := H
      try dsimp only at H
      by_cases c32 : t136 = 0
      ·
       rw [if_pos c32] at H
       exact absurd H (by simp)
      ·
       rw [if_neg c32] at H
       have c32b0 : (t136 == 0) = false := beq_eq_false_iff_ne.mpr c32
       have c32b1 : (t136 != 0) = true := bne_iff_ne.mpr c32
       replace H := bS H
       obtain ⟨t137, A33, H⟩ := H
       try dsimp only at H
       replace H := bS H
       obtain ⟨t138, A34, H⟩ := H
       try dsimp only at H
       obtain ⟨ji35, hji35⟩ : ∃ j_ : Int, (mx (wrap64 (t132 - t133)) 0) = j_ := ⟨_, rfl⟩
       replace H : ((spec_l01Power.f k a0 (ji35)).bind fun t139 => ((spec_l01MulMod.f t138 t139 t134).bind fun t140 => (some (a3, t140, ji21, true)))) = some (r1, r2, r3, r4) := by first | (rw [hji35] at H; exact H) | (simp only [hji35] at H ⊢; exact H)
       (try rw [hji35] at A5)
       (try rw [hji35] at A13)
       (try rw [hji35] at A14)
       (try rw [hji35] at A28)
       (try rw [hji35] at A29)
       (try rw [hji35] at A31)
       (try rw [hji35] at A33)
       (try rw [hji35] at A34)
       (try (have hji35l : 0 ≤ ji35 := by (rw [← hji35]; unfold mx; (repeat' split) <;> omega)))
       (try (have hji35m : 0 ≤ ji35 := by omega))
       have hji35_ : (if (wrap64 (t132 - t133)) < 0 then 0 else (wrap64 (t132 - t133))) = ji35 := hji35
       replace H := bS H
       obtain ⟨t139, A36, H⟩ := H
       try dsimp only at H
       replace H := bS H
       obtain ⟨t140, A37, H⟩ := H
       try dsimp only at H
       simp only [Option.some.injEq, Prod.mk.injEq] at H
       obtain ⟨rfl, rfl, rfl, rfl⟩ := H
       go_enter Try.func119, Try.ntmps119
       go_wp2_with (first | ((with_reducible refine gate_dst (N := 8) rfl ?_); refine box_event ?hg (N := 8) ?hd (cs := #[.int .i64 0, .int .i64 0, .int .i64 0]) (t := 39) ?hr ?_; (case hd => rfl); (case hg => rfl); (case hr => first | (go_simp; done) | (go_simp; rfl)); intro gb129 hg w38 hbox hb; have BK129 := Aside0.mk (hbox); have GW129 := sA hg; have GE129 := sA hg; replace HB := lB hb; clear hb hbox hg) | ((with_reducible refine gate_callee (f := 71) rfl ?_); refine goesL_ (some 15) rfl rfl Try.func71 (by kernel_rfl) rfl #[.int .i64 a3, .int .i64 (-6), .int .i64 6] rfl hA ?_; (with_reducible refine (spec_l01In.calls a3 (-6) 6 true _ A5.out).mono ?_); rintro e w' ⟨rfl, ⟨nd, rfl⟩⟩; refine ⟨_, rfl, ?_⟩; (try (rw [drewN_self w38]; generalize hq_ : World.drewN w38 _ = w38; replace BK129 := Aside0.mk (by rw [← hq_]; exact (bkA BK129)); replace HB := Aside0.mk (by rw [← hq_]; exact blA); clear hq_))) | ((with_reducible refine gate_dst (N := 10) rfl ?_); refine box_event ?hg (N := 10) ?hd (cs := #[.int .i64 0, .int .i64 0, .int .i64 0]) (t := 39) ?hr ?_; (case hd => rfl); (case hg => rfl); (case hr => first | (go_simp; done) | (go_simp; rfl)); intro gb131 hg w39 hbox hb; have BK131 := Aside0.mk (hbox); have GW131 := sA hg; have GE131 := sA hg; have NB129_131 := nA hg BK129; have NB131_129 := nB hg BK129; replace BK129 := kB BK129 hb; replace HB := lB hb; clear hb hbox hg; have hnb40 := NB131_129.out; have hnc40 := NB129_131.out; obtain ⟨hcz41_0, hcz41_1, hcz41_2, hfz41_0, hfz41_1, hfz41_2⟩ := cz3 BK131) | ((with_reducible refine gate_callee (f := 117) rfl ?_); refine goesL_ (some 25) rfl rfl Try.func117 (by kernel_rfl) rfl #[.int .i64 a0, .int .i64 a1] rfl hA ?_; (with_reducible refine (spec_l01Val.calls k a0 a1 t132 _ A13.out).mono ?_); rintro e w' ⟨rfl, ⟨nd, rfl⟩⟩; refine ⟨_, rfl, ?_⟩) | ((with_reducible refine gate_callee (f := 117) rfl ?_); refine goesL_ (some 28) rfl rfl Try.func117 (by kernel_rfl) rfl #[.int .i64 a0, .int .i64 a2] rfl hA ?_; (with_reducible refine (spec_l01Val.calls k a0 a2 t133 _ A14.out).mono ?_); rintro e w' ⟨rfl, ⟨nd, rfl⟩⟩; refine ⟨_, rfl, ?_⟩) | ((with_reducible refine gate_callee (f := 116) rfl ?_); refine goesL_ (some 49) rfl rfl Try.func116 (by kernel_rfl) rfl #[.int .i64 a0, .int .i64 (wrap64 (a3 + (ji21)))] rfl (by (try simp only [List.map_toArray, List.map_cons, List.map_nil]); first | done | (simp only [hji21]; rfl) | rfl | (simp only [List.length_drop, List.length_take]; rfl)) ?_; (with_reducible refine (spec_l01Power.calls k a0 (wrap64 (a3 + (ji21))) t134 _ A28.out).mono ?_); rintro e w' ⟨rfl, ⟨nd, rfl⟩⟩; refine ⟨_, rfl, ?_⟩) | ((with_reducible refine gate_callee (f := 116) rfl ?_); refine goesL_ (some 53) rfl rfl Try.func116 (by kernel_rfl) rfl #[.int .i64 a0, .int .i64 t132] rfl hA ?_; (with_reducible refine (spec_l01Power.calls k a0 t132 t135 _ A29.out).mono ?_); rintro e w' ⟨rfl, ⟨nd, rfl⟩⟩; refine ⟨_, rfl, ?_⟩) | ((with_reducible refine gate_callee (f := 116) rfl ?_); refine goesL_ (some 58) rfl rfl Try.func116 (by kernel_rfl) rfl #[.int .i64 a0, .int .i64 t133] rfl hA ?_; (with_reducible refine (spec_l01Power.calls k a0 t133 t136 _ A31.out).mono ?_); rintro e w' ⟨rfl, ⟨nd, rfl⟩⟩; refine ⟨_, rfl, ?_⟩) | ((with_reducible refine gate_callee (f := 147) rfl ?_); refine goesL_ (some 63) rfl rfl Try.func147 (by kernel_rfl) rfl #[.int .i64 (wrap64 (Int.tdiv a2 t136)), .int .i64 t134] rfl hA ?_; (with_reducible refine (spec_l01InvMod.calls k (wrap64 (Int.tdiv a2 t136)) t134 t137 _ A33.out).mono ?_); rintro e w' ⟨rfl, ⟨nd, rfl⟩⟩; refine ⟨_, rfl, ?_⟩) | ((with_reducible refine gate_callee (f := 146) rfl ?_); refine goesL_ (some 65) rfl rfl Try.func146 (by kernel_rfl) rfl #[.int .i64 (wrap64 (Int.tdiv a1 t135)), .int .i64 t137, .int .i64 t134] rfl hA ?_; (with_reducible refine (spec_l01MulMod.calls (wrap64 (Int.tdiv a1 t135)) t137 t134 t138 _ A34.out).mono ?_); rintro e w' ⟨rfl, ⟨nd, rfl⟩⟩; refine ⟨_, rfl, ?_⟩) | ((with_reducible refine gate_callee (f := 116) rfl ?_); refine goesL_ (some 71) rfl rfl Try.func116 (by kernel_rfl) rfl #[.int .i64 a0, .int .i64 ji35] rfl (by (try simp only [List.map_toArray, List.map_cons, List.map_nil]); first | done | (simp only [hji35]; rfl) | rfl | (simp only [List.length_drop, List.length_take]; rfl)) ?_; (with_reducible refine (spec_l01Power.calls k a0 ji35 t139 _ A36.out).mono ?_); rintro e w' ⟨rfl, ⟨nd, rfl⟩⟩; refine ⟨_, rfl, ?_⟩) | ((with_reducible refine gate_callee (f := 146) rfl ?_); refine goesL_ (some 73) rfl rfl Try.func146 (by kernel_rfl) rfl #[.int .i64 t138, .int .i64 t139, .int .i64 t134] rfl hA ?_; (with_reducible refine (spec_l01MulMod.calls t138 t139 t134 t140 _ A37.out).mono ?_); rintro e w' ⟨rfl, ⟨nd, rfl⟩⟩; refine ⟨_, rfl, ?_⟩; obtain ⟨hcz42_0, hcz42_1, hcz42_2, hfz42_0, hfz42_1, hfz42_2⟩ := cz3 BK129))
       refine bodyPost_ret (results_ct rfl _ _ gb129 39 #[.int .i64 a3, .int .i64 t140, .int .i64 ji21] (0, 0) _ rfl (by refine dr ?_; refine blk_put (cs := #[.int .i64 a3, .int .i64 t140, .int .i64 0]) ?_ 2 _ rfl; refine dr ?_; refine blk_put (cs := #[.int .i64 a3, .int .i64 0, .int .i64 0]) ?_ 1 _ rfl; refine dr ?_; refine blk_put (cs := #[.int .i64 0, .int .i64 0, .int .i64 0]) ?_ 0 _ rfl; refine dr ?_; refine blk_far ?_ NB129_131.out _; refine dr ?_; refine blk_far ?_ NB129_131.out _; refine dr ?_; refine blk_far ?_ NB129_131.out _; refine dr ?_; refine blk_far ?_ NB129_131.out _; refine dr ?_; refine blk_far ?_ NB129_131.out _; exact bkA BK129) Try.underlying39 rfl (by kernel_rfl)) rfl ?_
       exact ⟨by first | rfl | (simp [errW_none, errW_some] <;> rfl) | (simp only [← hji21, ← hji35]; first | rfl | (simp [errW_none, errW_some] <;> rfl)) | (simp [*, errW_none, errW_some] <;> rfl), blA⟩
 ·
  replace c6 := Bool.eq_false_iff.mpr c6
  subst c6
  rw [if_neg (show ¬ (false = true) by decide)] at H
  try dsimp only at H
  simp only [Option.some.injEq, Prod.mk.injEq] at H
  obtain ⟨rfl, rfl, rfl, rfl⟩ := H
  go_enter Try.func119, Try.ntmps119
  go_wp2_with (first | ((with_reducible refine gate_dst (N := 8) rfl ?_); refine box_event ?hg (N := 8) ?hd (cs := #[.int .i64 0, .int .i64 0, .int .i64 0]) (t := 39) ?hr ?_; (case hd => rfl); (case hg => rfl); (case hr => first | (go_simp; done) | (go_simp; rfl)); intro gb129 hg w43 hbox hb; have BK129 := Aside0.mk (hbox); have GW129 := sA hg; have GE129 := sA hg; replace HB := lB hb; clear hb hbox hg) | ((with_reducible refine gate_callee (f := 71) rfl ?_); refine goesL_ (some 15) rfl rfl Try.func71 (by kernel_rfl) rfl #[.int .i64 a3, .int .i64 (-6), .int .i64 6] rfl hA ?_; (with_reducible refine (spec_l01In.calls a3 (-6) 6 false _ A5.out).mono ?_); rintro e w' ⟨rfl, ⟨nd, rfl⟩⟩; refine ⟨_, rfl, ?_⟩; (try (rw [drewN_self w43]; generalize hq_ : World.drewN w43 _ = w43; replace BK129 := Aside0.mk (by rw [← hq_]; exact (bkA BK129)); replace HB := Aside0.mk (by rw [← hq_]; exact blA); clear hq_)); obtain ⟨hcz44_0, hcz44_1, hcz44_2, hfz44_0, hfz44_1, hfz44_2⟩ := cz3 BK129))
  refine bodyPost_ret (results_ct rfl _ _ gb129 39 #[.int .i64 0, .int .i64 0, .int .i64 0] (0, 0) _ rfl (by refine dr ?_; refine blk_put (cs := #[.int .i64 0, .int .i64 0, .int .i64 0]) ?_ 2 _ rfl; refine dr ?_; refine blk_put (cs := #[.int .i64 0, .int .i64 0, .int .i64 0]) ?_ 1 _ rfl; refine dr ?_; refine blk_put (cs := #[.int .i64 0, .int .i64 0, .int .i64 0]) ?_ 0 _ rfl; exact bkA BK129) Try.underlying39 rfl (by kernel_rfl)) rfl ?_
  exact finA blA
/-! ### impl_IsMatrix: function 79 -/
def impl_IsMatrix.f (k : Nat) (a0_0 : Int) (a0_1 : Int) (a0_2 : Int) (a0_3 : Int) : Option (Bool) := (impl_within.f k 1000 (([a0_0, a0_1, a0_2, a0_3] : List Int))).bind fun t252 => (if t252 = true then ((impl_determinant.f a0_0 a0_1 a0_2 a0_3).bind fun t253 => (some (t253 != 0))) else (some false))
theorem impl_IsMatrix.mono : ∀ a0 a1 a2 a3 k, LeO (impl_IsMatrix.f k a0 a1 a2 a3) (impl_IsMatrix.f (k + 1) a0 a1 a2 a3) := by
 intro a0 a1 a2 a3 k
 unfold impl_IsMatrix.f
 repeat' first
   | (with_reducible exact impl_within.mono _ _ _)
   | (with_reducible exact LeO.refl _)
   | (with_reducible exact LeO.none _)
   | (with_reducible refine LeO.ite ?_ ?_)
   | (with_reducible refine LeO.bind ?_ (fun _ => ?_))
set_option maxHeartbeats 8000000 in
set_option maxRecDepth 100000 in
theorem impl_IsMatrix.calls (k : Nat) (a0_0 : Int) (a0_1 : Int) (a0_2 : Int) (a0_3 : Int) (r : Bool) (w : World) (h : impl_IsMatrix.f k a0_0 a0_1 a0_2 a0_3 = some r) :
  Calls Try.prog 79 #[.agg #[.int .i64 a0_0, .int .i64 a0_1, .int .i64 a0_2, .int .i64 a0_3]] w fun e w' => e = .returned (.bool r) ∧ Below w.heap.size w w' := by
 have hu26 := Try.underlying26
 have HB := Aside0.mk (Below.refl w.heap.size w)
 have H := h
 unfold impl_IsMatrix.f at H
 clear h
 obtain ⟨y249, hy249⟩ : ∃ y_ : List Int, y_ = (([a0_0, a0_1, a0_2, a0_3] : List Int)) := ⟨_, rfl⟩
 replace H : ((impl_within.f k 1000 y249).bind fun t252 => (if t252 = true then ((impl_determinant.f a0_0 a0_1 a0_2 a0_3).bind fun t253 => (some (t253 != 0))) else (some false))) = some r := by first | (rw [hy249]; with_reducible exact H) | (have H2_ := (Option.bind_some _ _).symm.trans H; rw [hy249]; with_reducible exact H2_) | (have H2_ := (Option.bind_some _ _).symm.trans H; with_reducible exact H2_) | with_reducible exact H | (rw [hy249]; exact H) | exact H
 have Ny249 := Aside0.mk hy249
 clear hy249
 replace H := bS H
 obtain ⟨t252, A2, H⟩ := H
 try dsimp only at H
 by_cases c3 : t252 = true
 ·
  subst c3
  rw [if_pos rfl] at H
  try dsimp only at H
  replace H := bS H
  obtain ⟨t253, A4, H⟩ := H
  try dsimp only at H
  obtain rfl := Option.some.inj H
  go_enter Try.func79, Try.ntmps79
  go_wp2_with (first | ((with_reducible refine gate_dst (N := 1) rfl ?_); refine box_event ?hg (N := 1) ?hd (cs := #[.int .i64 a0_0, .int .i64 a0_1, .int .i64 a0_2, .int .i64 a0_3]) (t := 26) ?hr ?_; (case hd => rfl); (case hg => rfl); (case hr => first | (go_simp; done) | (go_simp; rfl)); intro gb248 hg w5 hbox hb; have BK248 := Aside0.mk (hbox); have GW248 := sA hg; have GE248 := sA hg; replace HB := lB hb; clear hb hbox hg; obtain ⟨hcz6_0, hcz6_1, hcz6_2, hcz6_3, hfz6_0, hfz6_1, hfz6_2, hfz6_3⟩ := cz4 BK248) | ((with_reducible refine gate_dst (N := 15) rfl ?_); refine Kd.R_lit (Kd.int .i64) _ 2 ?hg (N := 15) ?hd (xs := ([a0_0, a0_1, a0_2, a0_3] : List Int)) (inner := [.int .i64 a0_0, .int .i64 a0_1, .int .i64 a0_2, .int .i64 a0_3]) (ok := fun _ => True) (okp := fun _ => True) ?hr ?hp (fun _ hk => hk) trivial (Below.refl _ _) (Nat.le_refl _) (by simp) ?_; (case hd => rfl); (case hg => rfl); (case hr => first | (go_simp; done) | (go_simp; rfl)); (case hp => exact (Reps.one (show Kd.M (Kd.int .i64) _ _ _ a0_0 [.int .i64 a0_0] from rfl) (Reps.one (show Kd.M (Kd.int .i64) _ _ _ a0_1 [.int .i64 a0_1] from rfl) (Reps.one (show Kd.M (Kd.int .i64) _ _ _ a0_2 [.int .i64 a0_2] from rfl) (Reps.one (show Kd.M (Kd.int .i64) _ _ _ a0_3 [.int .i64 a0_3] from rfl) (Reps.none _ _)))))); intro v250 w7 ho8 hb hg_ hnew_; clear hg_ hnew_; (first | rw [← Ny249.out] at ho8 | (simp only [Int.reduceToNat] at ho8; rw [← Ny249.out] at ho8)); have HO251 := Aside0.mk (Kd.R_lower ho8 (below_size blA)); replace BK248 := kB BK248 hb; replace HB := lB hb; clear hb ho8; obtain ⟨Ao9, co9, eo9⟩ := Kd.R_slice HO251.out; subst eo9) | ((with_reducible refine gate_callee (f := 127) rfl ?_); refine goesL_ (some 16) rfl rfl Try.func127 (by kernel_rfl) rfl #[.int .i64 1000, .slice Ao9 y249.length co9] rfl hA ?_; (with_reducible refine (impl_within.calls k 1000 _ _ y249 true _ ?side1 ?side2 A2.out).mono ?_); (case side1 => repeat (first | exact (Kd.R_reads' HO251.out).2.2 | (with_reducible refine Kd.C_alloc ?_ _) | (with_reducible refine Kd.C_drewN ?_ _) | (with_reducible refine Kd.C_drew ?_))); (case side2 => exact (Kd.R_reads' HO251.out).2.1); rintro e w' ⟨rfl, ⟨nd, rfl⟩⟩; refine ⟨_, rfl, ?_⟩; obtain ⟨hcz10_0, hcz10_1, hcz10_2, hcz10_3, hfz10_0, hfz10_1, hfz10_2, hfz10_3⟩ := cz4 BK248) | (go_at_call 124; (with_reducible refine (impl_determinant.calls a0_0 a0_1 a0_2 a0_3 t253 _ A4.out).mono ?_); rintro e w11 ⟨rfl, hb⟩; replace HO251 := Aside0.mk (Kd.R_below (rA HO251) hb); replace BK248 := kB BK248 hb; replace HB := lB hb; (try clear hb); (try clear hb2); (try clear hk); (try clear hi)))
  go_ret
  exact finA blA
 ·
  replace c3 := Bool.eq_false_iff.mpr c3
  subst c3
  rw [if_neg (show ¬ (false = true) by decide)] at H
  try dsimp only at H
  obtain rfl := Option.some.inj H
  go_enter Try.func79, Try.ntmps79
  go_wp2_with (first | ((with_reducible refine gate_dst (N := 1) rfl ?_); refine box_event ?hg (N := 1) ?hd (cs := #[.int .i64 a0_0, .int .i64 a0_1, .int .i64 a0_2, .int .i64 a0_3]) (t := 26) ?hr ?_; (case hd => rfl); (case hg => rfl); (case hr => first | (go_simp; done) | (go_simp; rfl)); intro gb248 hg w12 hbox hb; have BK248 := Aside0.mk (hbox); have GW248 := sA hg; have GE248 := sA hg; replace HB := lB hb; clear hb hbox hg; obtain ⟨hcz13_0, hcz13_1, hcz13_2, hcz13_3, hfz13_0, hfz13_1, hfz13_2, hfz13_3⟩ := cz4 BK248) | ((with_reducible refine gate_dst (N := 15) rfl ?_); refine Kd.R_lit (Kd.int .i64) _ 2 ?hg (N := 15) ?hd (xs := ([a0_0, a0_1, a0_2, a0_3] : List Int)) (inner := [.int .i64 a0_0, .int .i64 a0_1, .int .i64 a0_2, .int .i64 a0_3]) (ok := fun _ => True) (okp := fun _ => True) ?hr ?hp (fun _ hk => hk) trivial (Below.refl _ _) (Nat.le_refl _) (by simp) ?_; (case hd => rfl); (case hg => rfl); (case hr => first | (go_simp; done) | (go_simp; rfl)); (case hp => exact (Reps.one (show Kd.M (Kd.int .i64) _ _ _ a0_0 [.int .i64 a0_0] from rfl) (Reps.one (show Kd.M (Kd.int .i64) _ _ _ a0_1 [.int .i64 a0_1] from rfl) (Reps.one (show Kd.M (Kd.int .i64) _ _ _ a0_2 [.int .i64 a0_2] from rfl) (Reps.one (show Kd.M (Kd.int .i64) _ _ _ a0_3 [.int .i64 a0_3] from rfl) (Reps.none _ _)))))); intro v250 w14 ho15 hb hg_ hnew_; clear hg_ hnew_; (first | rw [← Ny249.out] at ho15 | (simp only [Int.reduceToNat] at ho15; rw [← Ny249.out] at ho15)); have HO251 := Aside0.mk (Kd.R_lower ho15 (below_size blA)); replace BK248 := kB BK248 hb; replace HB := lB hb; clear hb ho15; obtain ⟨Ao16, co16, eo16⟩ := Kd.R_slice HO251.out; subst eo16) | ((with_reducible refine gate_callee (f := 127) rfl ?_); refine goesL_ (some 16) rfl rfl Try.func127 (by kernel_rfl) rfl #[.int .i64 1000, .slice Ao16 y249.length co16] rfl hA ?_; (with_reducible refine (impl_within.calls k 1000 _ _ y249 false _ ?side1 ?side2 A2.out).mono ?_); (case side1 => repeat (first | exact (Kd.R_reads' HO251.out).2.2 | (with_reducible refine Kd.C_alloc ?_ _) | (with_reducible refine Kd.C_drewN ?_ _) | (with_reducible refine Kd.C_drew ?_))); (case side2 => exact (Kd.R_reads' HO251.out).2.1); rintro e w' ⟨rfl, ⟨nd, rfl⟩⟩; refine ⟨_, rfl, ?_⟩))
  go_ret
  exact finA blA
/-! ### impl_mark: function 122 -/
def impl_mark.f (k : Nat) (a0 : Int) (a1_0 : Int) (a1_1 : Int) (a1_2 : Int) : Option (Int) := (impl_power.f k a0 (wrap64 (6 - a1_2))).bind fun t259 => (some (wrap64 (a1_1 * t259)))
theorem impl_mark.mono : ∀ a0 a1 a2 a3 k, LeO (impl_mark.f k a0 a1 a2 a3) (impl_mark.f (k + 1) a0 a1 a2 a3) := by
 intro a0 a1 a2 a3 k
 unfold impl_mark.f
 repeat' first
   | (with_reducible exact impl_power.mono _ _ _)
   | (with_reducible exact LeO.refl _)
   | (with_reducible exact LeO.none _)
   | (with_reducible refine LeO.ite ?_ ?_)
   | (with_reducible refine LeO.bind ?_ (fun _ => ?_))
set_option maxHeartbeats 8000000 in
set_option maxRecDepth 100000 in
theorem impl_mark.calls (k : Nat) (a0 : Int) (a1_0 : Int) (a1_1 : Int) (a1_2 : Int) (r : Int) (w : World) (h : impl_mark.f k a0 a1_0 a1_1 a1_2 = some r) :
  Calls Try.prog 122 #[.int .i64 a0, .agg #[.int .i64 a1_0, .int .i64 a1_1, .int .i64 a1_2]] w fun e w' => e = .returned (.int .i64 r) ∧ Below w.heap.size w w' := by
 have hu39 := Try.underlying39
 have HB := Aside0.mk (Below.refl w.heap.size w)
 have H := h
 unfold impl_mark.f at H
 clear h
 replace H := bS H
 obtain ⟨t259, A3, H⟩ := H
 try dsimp only at H
 obtain rfl := Option.some.inj H
 go_enter Try.func122, Try.ntmps122
 go_wp2_with (first | ((with_reducible refine gate_dst (N := 3) rfl ?_); refine box_event ?hg (N := 3) ?hd (cs := #[.int .i64 a1_0, .int .i64 a1_1, .int .i64 a1_2]) (t := 39) ?hr ?_; (case hd => rfl); (case hg => rfl); (case hr => first | (go_simp; done) | (go_simp; rfl)); intro gb258 hg w4 hbox hb; have BK258 := Aside0.mk (hbox); have GW258 := sA hg; have GE258 := sA hg; replace HB := lB hb; clear hb hbox hg; obtain ⟨hcz5_0, hcz5_1, hcz5_2, hfz5_0, hfz5_1, hfz5_2⟩ := cz3 BK258) | (go_at_call 93; (with_reducible refine (impl_power.calls k a0 (wrap64 (6 - a1_2)) t259 _ A3.out).mono ?_); rintro e w' ⟨rfl, ⟨nd, rfl⟩⟩; (try first | exact ⟨rfl, _, World.drewN_drewN _ _ _⟩ | exact ⟨rfl, _, Eq.trans (World.drewN_drewN _ _ _) (congrArg (World.drewN _) (Nat.add_assoc _ _ _))⟩)))
 repeat (go_quiet (first | ((with_reducible refine gate_dst (N := 3) rfl ?_); refine box_event ?hg (N := 3) ?hd (cs := #[.int .i64 a1_0, .int .i64 a1_1, .int .i64 a1_2]) (t := 39) ?hr ?_; (case hd => rfl); (case hg => rfl); (case hr => first | (go_simp; done) | (go_simp; rfl)); intro gb258 hg w4 hbox hb; have BK258 := Aside0.mk (hbox); have GW258 := sA hg; have GE258 := sA hg; replace HB := lB hb; clear hb hbox hg; obtain ⟨hcz5_0, hcz5_1, hcz5_2, hfz5_0, hfz5_1, hfz5_2⟩ := cz3 BK258) | (go_at_call 93; (with_reducible refine (impl_power.calls k a0 (wrap64 (6 - a1_2)) t259 _ A3.out).mono ?_); rintro e w' ⟨rfl, ⟨nd, rfl⟩⟩; (try first | exact ⟨rfl, _, World.drewN_drewN _ _ _⟩ | exact ⟨rfl, _, Eq.trans (World.drewN_drewN _ _ _) (congrArg (World.drewN _) (Nat.add_assoc _ _ _))⟩))); try go_wp2_with (first | ((with_reducible refine gate_dst (N := 3) rfl ?_); refine box_event ?hg (N := 3) ?hd (cs := #[.int .i64 a1_0, .int .i64 a1_1, .int .i64 a1_2]) (t := 39) ?hr ?_; (case hd => rfl); (case hg => rfl); (case hr => first | (go_simp; done) | (go_simp; rfl)); intro gb258 hg w4 hbox hb; have BK258 := Aside0.mk (hbox); have GW258 := sA hg; have GE258 := sA hg; replace HB := lB hb; clear hb hbox hg; obtain ⟨hcz5_0, hcz5_1, hcz5_2, hfz5_0, hfz5_1, hfz5_2⟩ := cz3 BK258) | (go_at_call 93; (with_reducible refine (impl_power.calls k a0 (wrap64 (6 - a1_2)) t259 _ A3.out).mono ?_); rintro e w' ⟨rfl, ⟨nd, rfl⟩⟩; (try first | exact ⟨rfl, _, World.drewN_drewN _ _ _⟩ | exact ⟨rfl, _, Eq.trans (World.drewN_drewN _ _ _) (congrArg (World.drewN _) (Nat.add_assoc _ _ _))⟩))))
 go_ret
 exact finA blA
/-! ### impl_ofMark: function 133 -/
def impl_ofMark.f (k : Nat) (a0 : Int) (a1 : Int) (a2 : Int) : Option (Int × Int × Int × Bool) := (impl_isLevel.f a1).bind fun t269 => (if t269 = true then ((impl_power.f k a0 (wrap64 (a1 + 6))).bind fun t270 => ((impl_mod.f a2 t270).bind fun t271 => ((impl_valuation.f k a0 t271).bind fun t272 => ((impl_power.f k a0 (wrap64 (6 - (mx (wrap64 (6 - t272)) 0)))).bind fun t273 => (if t273 = 0 then (none) else (some (a1, wrap64 (Int.tdiv t271 t273), mx (wrap64 (6 - t272)) 0, true))))))) else (some (0, 0, 0, false)))
theorem impl_ofMark.mono : ∀ a0 a1 a2 k, LeO (impl_ofMark.f k a0 a1 a2) (impl_ofMark.f (k + 1) a0 a1 a2) := by
 intro a0 a1 a2 k
 unfold impl_ofMark.f
 repeat' first
   | (with_reducible exact impl_power.mono _ _ _)
   | (with_reducible exact impl_valuation.mono _ _ _)
   | (with_reducible exact LeO.refl _)
   | (with_reducible exact LeO.none _)
   | (with_reducible refine LeO.ite ?_ ?_)
   | (with_reducible refine LeO.bind ?_ (fun _ => ?_))
set_option maxHeartbeats 8000000 in
set_option maxRecDepth 100000 in
theorem impl_ofMark.calls (k : Nat) (a0 : Int) (a1 : Int) (a2 : Int) (r1 : Int) (r2 : Int) (r3 : Int) (r4 : Bool) (w : World) (h : impl_ofMark.f k a0 a1 a2 = some (r1, r2, r3, r4)) :
  Calls Try.prog 133 #[.int .i64 a0, .int .i64 a1, .int .i64 a2] w fun e w' => e = .returned (.tuple #[.agg #[.int .i64 r1, .int .i64 r2, .int .i64 r3], .bool r4]) ∧ Below w.heap.size w w' := by
 have hu39 := Try.underlying39
 have HB := Aside0.mk (Below.refl w.heap.size w)
 have H := h
 unfold impl_ofMark.f at H
 clear h
 replace H := bS H
 obtain ⟨t269, A4, H⟩ := H
 try dsimp only at H
 by_cases c5 : t269 = true
 ·
  subst c5
  rw [if_pos rfl] at H
  try dsimp only at H
  replace H := bS H
  obtain ⟨t270, A6, H⟩ := H
  try dsimp only at H
  replace H := bS H
  obtain ⟨t271, A7, H⟩ := H
  try dsimp only at H
  replace H := bS H
  obtain ⟨t272, A8, H⟩ := H
  try dsimp only at H
  obtain ⟨ji9, hji9⟩ : ∃ j_ : Int, (mx (wrap64 (6 - t272)) 0) = j_ := ⟨_, rfl⟩
  replace H : ((impl_power.f k a0 (wrap64 (6 - (ji9)))).bind fun t273 => (if t273 = 0 then (none) else (some (a1, wrap64 (Int.tdiv t271 t273), ji9, true)))) = some (r1, r2, r3, r4) := by first | (rw [hji9] at H; exact H) | (simp only [hji9] at H ⊢; exact H)
  (try rw [hji9] at A4)
  (try rw [hji9] at A6)
  (try rw [hji9] at A7)
  (try rw [hji9] at A8)
  (try (have hji9l : 0 ≤ ji9 := by (rw [← hji9]; unfold mx; (repeat' split) <;> omega)))
  (try (have hji9m : 0 ≤ ji9 := by omega))
  have hji9_ : (if (wrap64 (6 - t272)) < 0 then 0 else (wrap64 (6 - t272))) = ji9 := hji9
  replace H := bS H
  obtain ⟨t273, A10, H⟩ := H
  try dsimp only at H
  by_cases c11 : t273 = 0
  ·
   rw [if_pos c11] at H
   exact absurd H (by simp)
  ·
   rw [if_neg c11] at H
   have c11b0 : (t273 == 0) = false := beq_eq_false_iff_ne.mpr c11
   have c11b1 : (t273 != 0) = true := bne_iff_ne.mpr c11
   simp only [Option.some.injEq, Prod.mk.injEq] at H
   obtain ⟨rfl, rfl, rfl, rfl⟩ := H
   go_enter Try.func133, Try.ntmps133
   go_wp2_with (first | ((with_reducible refine gate_dst (N := 6) rfl ?_); refine box_event ?hg (N := 6) ?hd (cs := #[.int .i64 0, .int .i64 0, .int .i64 0]) (t := 39) ?hr ?_; (case hd => rfl); (case hg => rfl); (case hr => first | (go_simp; done) | (go_simp; rfl)); intro gb268 hg w12 hbox hb; have BK268 := Aside0.mk (hbox); have GW268 := sA hg; have GE268 := sA hg; replace HB := lB hb; clear hb hbox hg) | ((with_reducible refine gate_callee (f := 92) rfl ?_); refine goesL_ (some 10) rfl rfl Try.func92 (by kernel_rfl) rfl #[.int .i64 a1] rfl hA ?_; (with_reducible refine (impl_isLevel.calls a1 true _ A4.out).mono ?_); rintro e w' ⟨rfl, ⟨nd, rfl⟩⟩; refine ⟨_, rfl, ?_⟩; (try (rw [drewN_self w12]; generalize hq_ : World.drewN w12 _ = w12; replace BK268 := Aside0.mk (by rw [← hq_]; exact (bkA BK268)); replace HB := Aside0.mk (by rw [← hq_]; exact blA); clear hq_))) | ((with_reducible refine gate_callee (f := 93) rfl ?_); refine goesL_ (some 17) rfl rfl Try.func93 (by kernel_rfl) rfl #[.int .i64 a0, .int .i64 (wrap64 (a1 + 6))] rfl hA ?_; (with_reducible refine (impl_power.calls k a0 (wrap64 (a1 + 6)) t270 _ A6.out).mono ?_); rintro e w' ⟨rfl, ⟨nd, rfl⟩⟩; refine ⟨_, rfl, ?_⟩; (try (rw [drewN_self w12]; generalize hq_ : World.drewN w12 _ = w12; replace BK268 := Aside0.mk (by rw [← hq_]; exact (bkA BK268)); replace HB := Aside0.mk (by rw [← hq_]; exact blA); clear hq_))) | ((with_reducible refine gate_callee (f := 155) rfl ?_); refine goesL_ (some 18) rfl rfl Try.func155 (by kernel_rfl) rfl #[.int .i64 a2, .int .i64 t270] rfl hA ?_; (with_reducible refine (impl_mod.calls a2 t270 t271 _ A7.out).mono ?_); rintro e w' ⟨rfl, ⟨nd, rfl⟩⟩; refine ⟨_, rfl, ?_⟩; (try (rw [drewN_self w12]; generalize hq_ : World.drewN w12 _ = w12; replace BK268 := Aside0.mk (by rw [← hq_]; exact (bkA BK268)); replace HB := Aside0.mk (by rw [← hq_]; exact blA); clear hq_))) | ((with_reducible refine gate_callee (f := 123) rfl ?_); refine goesL_ (some 21) rfl rfl Try.func123 (by kernel_rfl) rfl #[.int .i64 a0, .int .i64 t271] rfl hA ?_; (with_reducible refine (impl_valuation.calls k a0 t271 t272 _ A8.out).mono ?_); rintro e w' ⟨rfl, ⟨nd, rfl⟩⟩; refine ⟨_, rfl, ?_⟩; (try (rw [drewN_self w12]; generalize hq_ : World.drewN w12 _ = w12; replace BK268 := Aside0.mk (by rw [← hq_]; exact (bkA BK268)); replace HB := Aside0.mk (by rw [← hq_]; exact blA); clear hq_))) | ((with_reducible refine gate_callee (f := 93) rfl ?_); refine goesL_ (some 29) rfl rfl Try.func93 (by kernel_rfl) rfl #[.int .i64 a0, .int .i64 (wrap64 (6 - (ji9)))] rfl (by (try simp only [List.map_toArray, List.map_cons, List.map_nil]); first | done | (simp only [hji9]; rfl) | rfl | (simp only [List.length_drop, List.length_take]; rfl)) ?_; (with_reducible refine (impl_power.calls k a0 (wrap64 (6 - (ji9))) t273 _ A10.out).mono ?_); rintro e w' ⟨rfl, ⟨nd, rfl⟩⟩; refine ⟨_, rfl, ?_⟩; (try (rw [drewN_self w12]; generalize hq_ : World.drewN w12 _ = w12; replace BK268 := Aside0.mk (by rw [← hq_]; exact (bkA BK268)); replace HB := Aside0.mk (by rw [← hq_]; exact blA); clear hq_)); obtain ⟨hcz13_0, hcz13_1, hcz13_2, hfz13_0, hfz13_1, hfz13_2⟩ := cz3 BK268))
   refine bodyPost_ret (results_ct rfl _ _ gb268 39 #[.int .i64 a1, .int .i64 (wrap64 (Int.tdiv t271 t273)), .int .i64 ji9] (0, 0) _ rfl (by refine dr ?_; refine blk_put (cs := #[.int .i64 a1, .int .i64 (wrap64 (Int.tdiv t271 t273)), .int .i64 0]) ?_ 2 _ rfl; refine dr ?_; refine blk_put (cs := #[.int .i64 a1, .int .i64 0, .int .i64 0]) ?_ 1 _ rfl; refine dr ?_; refine blk_put (cs := #[.int .i64 0, .int .i64 0, .int .i64 0]) ?_ 0 _ rfl; exact bkA BK268) Try.underlying39 rfl (by kernel_rfl)) rfl ?_
   exact ⟨by first | rfl | (simp [errW_none, errW_some] <;> rfl) | (simp only [← hji9]; first | rfl | (simp [errW_none, errW_some] <;> rfl)) | (simp [*, errW_none, errW_some] <;> rfl), blA⟩
 ·
  replace c5 := Bool.eq_false_iff.mpr c5
  subst c5
  rw [if_neg (show ¬ (false = true) by decide)] at H
  try dsimp only at H
  simp only [Option.some.injEq, Prod.mk.injEq] at H
  obtain ⟨rfl, rfl, rfl, rfl⟩ := H
  go_enter Try.func133, Try.ntmps133
  go_wp2_with (first | ((with_reducible refine gate_dst (N := 6) rfl ?_); refine box_event ?hg (N := 6) ?hd (cs := #[.int .i64 0, .int .i64 0, .int .i64 0]) (t := 39) ?hr ?_; (case hd => rfl); (case hg => rfl); (case hr => first | (go_simp; done) | (go_simp; rfl)); intro gb268 hg w14 hbox hb; have BK268 := Aside0.mk (hbox); have GW268 := sA hg; have GE268 := sA hg; replace HB := lB hb; clear hb hbox hg) | ((with_reducible refine gate_callee (f := 92) rfl ?_); refine goesL_ (some 10) rfl rfl Try.func92 (by kernel_rfl) rfl #[.int .i64 a1] rfl hA ?_; (with_reducible refine (impl_isLevel.calls a1 false _ A4.out).mono ?_); rintro e w' ⟨rfl, ⟨nd, rfl⟩⟩; refine ⟨_, rfl, ?_⟩; (try (rw [drewN_self w14]; generalize hq_ : World.drewN w14 _ = w14; replace BK268 := Aside0.mk (by rw [← hq_]; exact (bkA BK268)); replace HB := Aside0.mk (by rw [← hq_]; exact blA); clear hq_)); obtain ⟨hcz15_0, hcz15_1, hcz15_2, hfz15_0, hfz15_1, hfz15_2⟩ := cz3 BK268))
  refine bodyPost_ret (results_ct rfl _ _ gb268 39 #[.int .i64 0, .int .i64 0, .int .i64 0] (0, 0) _ rfl (by refine dr ?_; refine blk_put (cs := #[.int .i64 0, .int .i64 0, .int .i64 0]) ?_ 2 _ rfl; refine dr ?_; refine blk_put (cs := #[.int .i64 0, .int .i64 0, .int .i64 0]) ?_ 1 _ rfl; refine dr ?_; refine blk_put (cs := #[.int .i64 0, .int .i64 0, .int .i64 0]) ?_ 0 _ rfl; exact bkA BK268) Try.underlying39 rfl (by kernel_rfl)) rfl ?_
  exact finA blA
end Go.Proofs.Ytccpccnnbacgjaa.PAll
