-- turned for this claim out of the kit's print: the same functions, packed anew
import Derived.Test.YtccpccnnbacgjaaQx
import Derived.Test.YtccpccnnbacgjaaQLtoBall
import Derived.Test.YtccpccnnbacgjaaQimplareMatrices
import Derived.Test.YtccpccnnbacgjaaQimplinverse
import Derived.Test.YtccpccnnbacgjaaQimplofMark
namespace Go.Proofs.Ytccpccnnbacgjaa.PAll
open Go.RowKit Go.Proofs.YtccpccnnbacgjaaW.PrintWords Go.Proofs.YtccpccnnbacgjaaW.PrintLast Go.Proofs.YtccpccnnbacgjaaW.PrintMore
attribute [local go_sem] Go.Proofs.Ytccpccnnbacgjaa.Aux.setCell_drewN Go.Proofs.Ytccpccnnbacgjaa.Aux.isSome_setCell max2_int min2_int max_two min_two max_three min_three max_four min_four   -- for this text's walks alone
set_option linter.unusedVariables false
set_option linter.unusedSimpArgs false
/-! ### impl_ballAt: function 125 -/
def impl_ballAt.j0 : Nat → Int → Int → Int → Int → Int → Bool → Option (Int × Int × Int × Bool)
 | 0, _, _, _, _, _, _ => none
 | k + 1, x0, x1, x2, x3, x10, x24 => if x24 = true then (some (x3, 0, 0, true)) else (if x10 < (-6) then (some (0, 0, 0, false)) else ((impl_power.f k x0 (wrap64 (x3 + 6))).bind fun t352 => ((impl_unit.f k x0 x1).bind fun t353 => ((impl_unit.f k x0 x2).bind fun t354 => ((impl_inverse.f k t354 t352).bind fun t355 => ((impl_times.f k t353 t355 t352).bind fun t356 => ((impl_power.f k x0 (wrap64 (x10 + 6))).bind fun t357 => ((impl_times.f k t356 t357 t352).bind fun t358 => ((impl_ofMark.f k x0 x3 t358).bind fun bt359 => (some (bt359.1, bt359.2.1, bt359.2.2.1, bt359.2.2.2)))))))))))
def impl_ballAt.f (k : Nat) (a0 : Int) (a1 : Int) (a2 : Int) (a3 : Int) : Option (Int × Int × Int × Bool) := (impl_isLevel.f a3).bind fun t349 => (if t349 = true then ((impl_valuation.f k a0 a1).bind fun t350 => ((impl_valuation.f k a0 a2).bind fun t351 => (if a1 = 0 then (impl_ballAt.j0 k a0 a1 a2 a3 (wrap64 (t350 - t351)) true) else (impl_ballAt.j0 k a0 a1 a2 a3 (wrap64 (t350 - t351)) (decide ((wrap64 (t350 - t351)) ≥ a3)))))) else (some (0, 0, 0, false)))
theorem impl_ballAt.mono_l : ∀ k, (∀ y0 y1 y2 y3 y4 y5, LeO (impl_ballAt.j0 k y0 y1 y2 y3 y4 y5) (impl_ballAt.j0 (k + 1) y0 y1 y2 y3 y4 y5))
 | 0 => fun _ _ _ _ _ _ r h => by simp [impl_ballAt.j0] at h
 | k + 1 => by
  have ih0 := impl_ballAt.mono_l k
  ·
   intro y0 y1 y2 y3 y4 y5
   unfold impl_ballAt.j0
   repeat' first
   | (with_reducible exact ih0 _ _ _ _ _ _)
   | (with_reducible exact impl_inverse.mono _ _ _)
   | (with_reducible exact impl_ofMark.mono _ _ _ _)
   | (with_reducible exact impl_power.mono _ _ _)
   | (with_reducible exact impl_times.mono _ _ _ _)
   | (with_reducible exact impl_unit.mono _ _ _)
   | (with_reducible exact impl_valuation.mono _ _ _)
   | (with_reducible exact LeO.refl _)
   | (with_reducible exact LeO.none _)
   | (with_reducible refine LeO.ite ?_ ?_)
   | (with_reducible refine LeO.bind ?_ (fun _ => ?_))
theorem impl_ballAt.mono : ∀ a0 a1 a2 a3 k, LeO (impl_ballAt.f k a0 a1 a2 a3) (impl_ballAt.f (k + 1) a0 a1 a2 a3) := by
 intro a0 a1 a2 a3 k
 have ih0 := impl_ballAt.mono_l k
 unfold impl_ballAt.f
 repeat' first
   | (with_reducible exact ih0 _ _ _ _ _ _)
   | (with_reducible exact impl_inverse.mono _ _ _)
   | (with_reducible exact impl_ofMark.mono _ _ _ _)
   | (with_reducible exact impl_power.mono _ _ _)
   | (with_reducible exact impl_times.mono _ _ _ _)
   | (with_reducible exact impl_unit.mono _ _ _)
   | (with_reducible exact impl_valuation.mono _ _ _)
   | (with_reducible exact LeO.refl _)
   | (with_reducible exact LeO.none _)
   | (with_reducible refine LeO.ite ?_ ?_)
   | (with_reducible refine LeO.bind ?_ (fun _ => ?_))
set_option maxHeartbeats 8000000 in
set_option maxRecDepth 100000 in
theorem impl_ballAt.calls (k : Nat) (a0 : Int) (a1 : Int) (a2 : Int) (a3 : Int) (r1 : Int) (r2 : Int) (r3 : Int) (r4 : Bool) (w : World) (h : impl_ballAt.f k a0 a1 a2 a3 = some (r1, r2, r3, r4)) :
  Calls Try.prog 125 #[.int .i64 a0, .int .i64 a1, .int .i64 a2, .int .i64 a3] w fun e w' => e = .returned (.tuple #[.agg #[.int .i64 r1, .int .i64 r2, .int .i64 r3], .bool r4]) ∧ Below w.heap.size w w' := by
 have hu39 := Try.underlying39
 have HB := Aside0.mk (Below.refl w.heap.size w)
 have H := h
 unfold impl_ballAt.f at H
 clear h
 replace H := bS H
 obtain ⟨t349, A5, H⟩ := H
 try dsimp only at H
 by_cases c6 : t349 = true
 ·
  subst c6
  rw [if_pos rfl] at H
  try dsimp only at H
  replace H := bS H
  obtain ⟨t350, A7, H⟩ := H
  try dsimp only at H
  replace H := bS H
  obtain ⟨t351, A8, H⟩ := H
  try dsimp only at H
  have HC9 := Aside0.mk H
  clear H
  go_enter Try.func125, Try.ntmps125
  go_upto_region 4 with (first | ((with_reducible refine gate_dst (N := 8) rfl ?_); refine box_event ?hg (N := 8) ?hd (cs := #[.int .i64 0, .int .i64 0, .int .i64 0]) (t := 39) ?hr ?_; (case hd => rfl); (case hg => rfl); (case hr => first | (go_simp; done) | (go_simp; rfl)); intro gb348 hg w10 hbox hb; have BK348 := Aside0.mk (hbox); have GW348 := sA hg; have GE348 := sA hg; replace HB := lB hb; clear hb hbox hg) | ((with_reducible refine gate_callee (f := 92) rfl ?_); refine goesL_ (some 14) rfl rfl Try.func92 (by kernel_rfl) rfl #[.int .i64 a3] rfl hA ?_; (with_reducible refine (impl_isLevel.calls a3 true _ A5.out).mono ?_); rintro e w' ⟨rfl, ⟨nd, rfl⟩⟩; refine ⟨_, rfl, ?_⟩) | ((with_reducible refine gate_callee (f := 123) rfl ?_); refine goesL_ (some 19) rfl rfl Try.func123 (by kernel_rfl) rfl #[.int .i64 a0, .int .i64 a1] rfl hA ?_; (with_reducible refine (impl_valuation.calls k a0 a1 t350 _ A7.out).mono ?_); rintro e w' ⟨rfl, ⟨nd, rfl⟩⟩; refine ⟨_, rfl, ?_⟩) | ((with_reducible refine gate_callee (f := 123) rfl ?_); refine goesL_ (some 22) rfl rfl Try.func123 (by kernel_rfl) rfl #[.int .i64 a0, .int .i64 a2] rfl hA ?_; (with_reducible refine (impl_valuation.calls k a0 a2 t351 _ A8.out).mono ?_); rintro e w' ⟨rfl, ⟨nd, rfl⟩⟩; refine ⟨_, rfl, ?_⟩))
  (try simp only [Act.put, List.setIfInBounds_toArray, List.set_cons_zero, List.set_cons_succ])
  go_cut [24] (fun v24 wc => ∃ (kq : Nat) (x24_8 : Bool), v24 = .bool x24_8 ∧ Aside0 (impl_ballAt.j0 kq a0 a1 a2 a3 (wrap64 (t350 - t351)) x24_8 = some (r1, r2, r3, r4)) ∧ Aside0 (kq ≤ k) ∧ Aside0 (wc.heap[gb348]? = some (.cells #[.int .i64 0, .int .i64 0, .int .i64 0] 39 (0, 0))) ∧ Aside0 (Below w.heap.size w wc))
  case first =>
   have H := HC9.out
   clear HC9
   by_cases c11 : a1 = 0
   ·
    rw [if_pos c11] at H
    have c11b0 : (a1 == 0) = true := beq_iff_eq.mpr c11
    have c11b1 : (a1 != 0) = false := bne_eq_false_iff_eq.mpr c11
    clear c11
    (first | rw [c11b0] | (simp only [i64_w, i32_w]; rw [c11b0]) | skip)
    have H' := Aside0.mk H
    clear H
    go_wp2
    go_meet
    case rel => exact ⟨_, (true), hB, H', ⟨by first | omega | exact Nat.le_refl _⟩, ⟨bkA BK348⟩, ⟨blA⟩⟩
   ·
    rw [if_neg c11] at H
    have c11b0 : (a1 == 0) = false := beq_eq_false_iff_ne.mpr c11
    have c11b1 : (a1 != 0) = true := bne_iff_ne.mpr c11
    (first | rw [c11b0] | (simp only [i64_w, i32_w]; rw [c11b0]) | skip)
    have H' := Aside0.mk H
    clear H
    go_wp2
    go_meet
    case rel => exact ⟨_, (decide ((wrap64 (t350 - t351)) ≥ a3)), hB, H', ⟨by first | omega | exact Nat.le_refl _⟩, ⟨bkA BK348⟩, ⟨blA⟩⟩
  case rest =>
   clear HC9
   try clear c6
   try clear c11
   try clear c11b0
   try clear c11b1
   obtain ⟨kq, x24_8, rfl, HA, HJ8, BK348, HB⟩ := hcut
   cases kq with
   | zero => exact absurd HA.out (by simp [impl_ballAt.j0])
   | succ kj8 =>
    have H := HA.out
    clear HA
    simp only [impl_ballAt.j0] at H
    by_cases c12 : x24_8 = true
    ·
     subst c12
     rw [if_pos rfl] at H
     try dsimp only at H
     simp only [Option.some.injEq, Prod.mk.injEq] at H
     obtain ⟨rfl, rfl, rfl, rfl⟩ := H
     obtain ⟨hcz13_0, hcz13_1, hcz13_2, hfz13_0, hfz13_1, hfz13_2⟩ := cz3 BK348
     go_wp2
     refine bodyPost_ret (results_ct rfl _ _ gb348 39 #[.int .i64 a3, .int .i64 0, .int .i64 0] (0, 0) _ rfl (by refine dr ?_; refine blk_put (cs := #[.int .i64 a3, .int .i64 0, .int .i64 0]) ?_ 2 _ rfl; refine dr ?_; refine blk_put (cs := #[.int .i64 a3, .int .i64 0, .int .i64 0]) ?_ 1 _ rfl; refine dr ?_; refine blk_put (cs := #[.int .i64 0, .int .i64 0, .int .i64 0]) ?_ 0 _ rfl; exact bkA BK348) Try.underlying39 rfl (by kernel_rfl)) rfl ?_
     exact finA blA
    ·
     replace c12 := Bool.eq_false_iff.mpr c12
     subst c12
     rw [if_neg (show ¬ (false = true) by decide)] at H
     try dsimp only at H
     by_cases c14 : (wrap64 (t350 - t351)) < (-6)
     ·
      rw [if_pos c14] at H
      have c14b0 := decide_eq_true c14
      clear c14
      simp only [Option.some.injEq, Prod.mk.injEq] at H
      obtain ⟨rfl, rfl, rfl, rfl⟩ := H
      obtain ⟨hcz15_0, hcz15_1, hcz15_2, hfz15_0, hfz15_1, hfz15_2⟩ := cz3 BK348
      go_wp2
      refine bodyPost_ret (results_ct rfl _ _ gb348 39 #[.int .i64 0, .int .i64 0, .int .i64 0] (0, 0) _ rfl (by refine dr ?_; refine blk_put (cs := #[.int .i64 0, .int .i64 0, .int .i64 0]) ?_ 2 _ rfl; refine dr ?_; refine blk_put (cs := #[.int .i64 0, .int .i64 0, .int .i64 0]) ?_ 1 _ rfl; refine dr ?_; refine blk_put (cs := #[.int .i64 0, .int .i64 0, .int .i64 0]) ?_ 0 _ rfl; exact bkA BK348) Try.underlying39 rfl (by kernel_rfl)) rfl ?_
      exact finA blA
     ·
      rw [if_neg c14] at H
      have c14b0 := decide_eq_false c14
      clear c14
      replace H := bS H
      obtain ⟨t352, A16, H⟩ := H
      try dsimp only at H
      replace H := bS H
      obtain ⟨t353, A17, H⟩ := H
      try dsimp only at H
      replace H := bS H
      obtain ⟨t354, A18, H⟩ := H
      try dsimp only at H
      replace H := bS H
      obtain ⟨t355, A19, H⟩ := H
      try dsimp only at H
      replace H := bS H
      obtain ⟨t356, A20, H⟩ := H
      try dsimp only at H
      replace H := bS H
      obtain ⟨t357, A21, H⟩ := H
      try dsimp only at H
      replace H := bS H
      obtain ⟨t358, A22, H⟩ := H
      try dsimp only at H
      replace H := bS H
      obtain ⟨⟨t359, t360, t361, t362⟩, A23, H⟩ := H
      try dsimp only at H
      simp only [Option.some.injEq, Prod.mk.injEq] at H
      obtain ⟨rfl, rfl, rfl, rfl⟩ := H
      go_wp2_with (first | ((with_reducible refine gate_callee (f := 93) rfl ?_); refine goesL_ (some 41) rfl rfl Try.func93 (by kernel_rfl) rfl #[.int .i64 a0, .int .i64 (wrap64 (a3 + 6))] rfl hA ?_; (with_reducible refine (impl_power.calls kj8 a0 (wrap64 (a3 + 6)) t352 _ A16.out).mono ?_); rintro e w' ⟨rfl, ⟨nd, rfl⟩⟩; refine ⟨_, rfl, ?_⟩; (try (rw [drewN_self wc]; generalize hq_ : World.drewN wc _ = wc; replace BK348 := Aside0.mk (by rw [← hq_]; exact (bkA BK348)); replace HB := Aside0.mk (by rw [← hq_]; exact blA); clear hq_))) | ((with_reducible refine gate_callee (f := 150) rfl ?_); refine goesL_ (some 44) rfl rfl Try.func150 (by kernel_rfl) rfl #[.int .i64 a0, .int .i64 a1] rfl hA ?_; (with_reducible refine (impl_unit.calls kj8 a0 a1 t353 _ A17.out).mono ?_); rintro e w' ⟨rfl, ⟨nd, rfl⟩⟩; refine ⟨_, rfl, ?_⟩; (try (rw [drewN_self wc]; generalize hq_ : World.drewN wc _ = wc; replace BK348 := Aside0.mk (by rw [← hq_]; exact (bkA BK348)); replace HB := Aside0.mk (by rw [← hq_]; exact blA); clear hq_))) | ((with_reducible refine gate_callee (f := 150) rfl ?_); refine goesL_ (some 47) rfl rfl Try.func150 (by kernel_rfl) rfl #[.int .i64 a0, .int .i64 a2] rfl hA ?_; (with_reducible refine (impl_unit.calls kj8 a0 a2 t354 _ A18.out).mono ?_); rintro e w' ⟨rfl, ⟨nd, rfl⟩⟩; refine ⟨_, rfl, ?_⟩; (try (rw [drewN_self wc]; generalize hq_ : World.drewN wc _ = wc; replace BK348 := Aside0.mk (by rw [← hq_]; exact (bkA BK348)); replace HB := Aside0.mk (by rw [← hq_]; exact blA); clear hq_))) | ((with_reducible refine gate_callee (f := 151) rfl ?_); refine goesL_ (some 49) rfl rfl Try.func151 (by kernel_rfl) rfl #[.int .i64 t354, .int .i64 t352] rfl hA ?_; (with_reducible refine (impl_inverse.calls kj8 t354 t352 t355 _ A19.out).mono ?_); rintro e w' ⟨rfl, ⟨nd, rfl⟩⟩; refine ⟨_, rfl, ?_⟩; (try (rw [drewN_self wc]; generalize hq_ : World.drewN wc _ = wc; replace BK348 := Aside0.mk (by rw [← hq_]; exact (bkA BK348)); replace HB := Aside0.mk (by rw [← hq_]; exact blA); clear hq_))) | ((with_reducible refine gate_callee (f := 149) rfl ?_); refine goesL_ (some 51) rfl rfl Try.func149 (by kernel_rfl) rfl #[.int .i64 t353, .int .i64 t355, .int .i64 t352] rfl hA ?_; (with_reducible refine (impl_times.calls kj8 t353 t355 t352 t356 _ A20.out).mono ?_); rintro e w' ⟨rfl, ⟨nd, rfl⟩⟩; refine ⟨_, rfl, ?_⟩; (try (rw [drewN_self wc]; generalize hq_ : World.drewN wc _ = wc; replace BK348 := Aside0.mk (by rw [← hq_]; exact (bkA BK348)); replace HB := Aside0.mk (by rw [← hq_]; exact blA); clear hq_))) | ((with_reducible refine gate_callee (f := 93) rfl ?_); refine goesL_ (some 58) rfl rfl Try.func93 (by kernel_rfl) rfl #[.int .i64 a0, .int .i64 (wrap64 ((wrap64 (t350 - t351)) + 6))] rfl hA ?_; (with_reducible refine (impl_power.calls kj8 a0 (wrap64 ((wrap64 (t350 - t351)) + 6)) t357 _ A21.out).mono ?_); rintro e w' ⟨rfl, ⟨nd, rfl⟩⟩; refine ⟨_, rfl, ?_⟩; (try (rw [drewN_self wc]; generalize hq_ : World.drewN wc _ = wc; replace BK348 := Aside0.mk (by rw [← hq_]; exact (bkA BK348)); replace HB := Aside0.mk (by rw [← hq_]; exact blA); clear hq_))) | ((with_reducible refine gate_callee (f := 149) rfl ?_); refine goesL_ (some 60) rfl rfl Try.func149 (by kernel_rfl) rfl #[.int .i64 t356, .int .i64 t357, .int .i64 t352] rfl hA ?_; (with_reducible refine (impl_times.calls kj8 t356 t357 t352 t358 _ A22.out).mono ?_); rintro e w' ⟨rfl, ⟨nd, rfl⟩⟩; refine ⟨_, rfl, ?_⟩; (try (rw [drewN_self wc]; generalize hq_ : World.drewN wc _ = wc; replace BK348 := Aside0.mk (by rw [← hq_]; exact (bkA BK348)); replace HB := Aside0.mk (by rw [← hq_]; exact blA); clear hq_))) | ((with_reducible refine gate_callee (f := 133) rfl ?_); refine goesL_ (some 61) rfl rfl Try.func133 (by kernel_rfl) rfl #[.int .i64 a0, .int .i64 a3, .int .i64 t358] rfl hA ?_; (with_reducible refine (impl_ofMark.calls kj8 a0 a3 t358 t359 t360 t361 t362 _ A23.out).mono ?_); rintro e w24 ⟨rfl, hb⟩; refine ⟨_, rfl, ?_⟩; replace BK348 := kB BK348 hb; replace HB := lB hb; (try clear hb); (try clear hb2); (try clear hk); (try clear hi); obtain ⟨hcz25_0, hcz25_1, hcz25_2, hfz25_0, hfz25_1, hfz25_2⟩ := cz3 BK348))
      refine bodyPost_ret (results_ct rfl _ _ gb348 39 #[.int .i64 t359, .int .i64 t360, .int .i64 t361] (0, 0) _ rfl (by refine dr ?_; refine blk_put (cs := #[.int .i64 t359, .int .i64 t360, .int .i64 0]) ?_ 2 _ rfl; refine dr ?_; refine blk_put (cs := #[.int .i64 t359, .int .i64 0, .int .i64 0]) ?_ 1 _ rfl; refine dr ?_; refine blk_put (cs := #[.int .i64 0, .int .i64 0, .int .i64 0]) ?_ 0 _ rfl; exact bkA BK348) Try.underlying39 rfl (by kernel_rfl)) rfl ?_
      exact finA blA
 ·
  replace c6 := Bool.eq_false_iff.mpr c6
  subst c6
  rw [if_neg (show ¬ (false = true) by decide)] at H
  try dsimp only at H
  simp only [Option.some.injEq, Prod.mk.injEq] at H
  obtain ⟨rfl, rfl, rfl, rfl⟩ := H
  go_enter Try.func125, Try.ntmps125
  go_wp2_with (first | ((with_reducible refine gate_dst (N := 8) rfl ?_); refine box_event ?hg (N := 8) ?hd (cs := #[.int .i64 0, .int .i64 0, .int .i64 0]) (t := 39) ?hr ?_; (case hd => rfl); (case hg => rfl); (case hr => first | (go_simp; done) | (go_simp; rfl)); intro gb348 hg w26 hbox hb; have BK348 := Aside0.mk (hbox); have GW348 := sA hg; have GE348 := sA hg; replace HB := lB hb; clear hb hbox hg) | ((with_reducible refine gate_callee (f := 92) rfl ?_); refine goesL_ (some 14) rfl rfl Try.func92 (by kernel_rfl) rfl #[.int .i64 a3] rfl hA ?_; (with_reducible refine (impl_isLevel.calls a3 false _ A5.out).mono ?_); rintro e w' ⟨rfl, ⟨nd, rfl⟩⟩; refine ⟨_, rfl, ?_⟩; (try (rw [drewN_self w26]; generalize hq_ : World.drewN w26 _ = w26; replace BK348 := Aside0.mk (by rw [← hq_]; exact (bkA BK348)); replace HB := Aside0.mk (by rw [← hq_]; exact blA); clear hq_)); obtain ⟨hcz27_0, hcz27_1, hcz27_2, hfz27_0, hfz27_1, hfz27_2⟩ := cz3 BK348))
  refine bodyPost_ret (results_ct rfl _ _ gb348 39 #[.int .i64 0, .int .i64 0, .int .i64 0] (0, 0) _ rfl (by refine dr ?_; refine blk_put (cs := #[.int .i64 0, .int .i64 0, .int .i64 0]) ?_ 2 _ rfl; refine dr ?_; refine blk_put (cs := #[.int .i64 0, .int .i64 0, .int .i64 0]) ?_ 1 _ rfl; refine dr ?_; refine blk_put (cs := #[.int .i64 0, .int .i64 0, .int .i64 0]) ?_ 0 _ rfl; exact bkA BK348) Try.underlying39 rfl (by kernel_rfl)) rfl ?_
  exact finA blA
/-! ### impl_reduce: function 132 -/
def impl_reduce.f (k : Nat) (a0_0 : Int) (a0_1 : Int) (a0_2 : Int) (a0_3 : Int) : Option (Int × Int × Int × Int) := (impl_reduced.f k a0_0 a0_1 a0_2 a0_3).bind fun bt962 => (some (bt962.1, bt962.2.1, bt962.2.2.1, bt962.2.2.2.1))
theorem impl_reduce.mono : ∀ a0 a1 a2 a3 k, LeO (impl_reduce.f k a0 a1 a2 a3) (impl_reduce.f (k + 1) a0 a1 a2 a3) := by
 intro a0 a1 a2 a3 k
 unfold impl_reduce.f
 repeat' first
   | (with_reducible exact impl_reduced.mono _ _ _ _ _)
   | (with_reducible exact LeO.refl _)
   | (with_reducible exact LeO.none _)
   | (with_reducible refine LeO.ite ?_ ?_)
   | (with_reducible refine LeO.bind ?_ (fun _ => ?_))
set_option maxHeartbeats 8000000 in
set_option maxRecDepth 100000 in
theorem impl_reduce.calls (k : Nat) (a0_0 : Int) (a0_1 : Int) (a0_2 : Int) (a0_3 : Int) (r1 : Int) (r2 : Int) (r3 : Int) (r4 : Int) (w : World) (h : impl_reduce.f k a0_0 a0_1 a0_2 a0_3 = some (r1, r2, r3, r4)) :
  Calls Try.prog 132 #[.agg #[.int .i64 a0_0, .int .i64 a0_1, .int .i64 a0_2, .int .i64 a0_3]] w fun e w' => e = .returned (.agg #[.int .i64 r1, .int .i64 r2, .int .i64 r3, .int .i64 r4]) ∧ Below w.heap.size w w' := by
 have hu26 := Try.underlying26
 have HB := Aside0.mk (Below.refl w.heap.size w)
 have H := h
 unfold impl_reduce.f at H
 clear h
 replace H := bS H
 obtain ⟨⟨t962, t963, t964, t965, t966⟩, A2, H⟩ := H
 try dsimp only at H
 simp only [Option.some.injEq, Prod.mk.injEq] at H
 obtain ⟨rfl, rfl, rfl, rfl⟩ := H
 go_enter Try.func132, Try.ntmps132
 go_wp2_with (first | ((with_reducible refine gate_dst (N := 1) rfl ?_); refine box_event ?hg (N := 1) ?hd (cs := #[.int .i64 a0_0, .int .i64 a0_1, .int .i64 a0_2, .int .i64 a0_3]) (t := 26) ?hr ?_; (case hd => rfl); (case hg => rfl); (case hr => first | (go_simp; done) | (go_simp; rfl)); intro gb960 hg w3 hbox hb; have BK960 := Aside0.mk (hbox); have GW960 := sA hg; have GE960 := sA hg; replace HB := lB hb; clear hb hbox hg) | ((with_reducible refine gate_dst (N := 2) rfl ?_); refine box_event ?hg (N := 2) ?hd (cs := #[.int .i64 0, .int .i64 0, .int .i64 0, .int .i64 0]) (t := 26) ?hr ?_; (case hd => rfl); (case hg => rfl); (case hr => first | (go_simp; done) | (go_simp; rfl)); intro gb961 hg w4 hbox hb; have BK961 := Aside0.mk (hbox); have GW961 := sA hg; have GE961 := sA hg; have NB960_961 := nA hg BK960; have NB961_960 := nB hg BK960; replace BK960 := kB BK960 hb; replace HB := lB hb; clear hb hbox hg; have hnb5 := NB960_961.out; have hnc5 := NB961_960.out; obtain ⟨hcz6_0, hcz6_1, hcz6_2, hcz6_3, hfz6_0, hfz6_1, hfz6_2, hfz6_3⟩ := cz4 BK960) | ((with_reducible refine gate_callee (f := 135) rfl ?_); refine goesL_ (some 7) rfl rfl Try.func135 (by kernel_rfl) rfl #[.agg #[.int .i64 a0_0, .int .i64 a0_1, .int .i64 a0_2, .int .i64 a0_3]] rfl hA ?_; (with_reducible refine (impl_reduced.calls k a0_0 a0_1 a0_2 a0_3 t962 t963 t964 t965 t966 _ A2.out).mono ?_); rintro e w7 ⟨rfl, hb⟩; refine ⟨_, rfl, ?_⟩; replace BK960 := kB BK960 hb; replace BK961 := kB BK961 hb; replace HB := lB hb; (try clear hb); (try clear hb2); (try clear hk); (try clear hi)) | ((with_reducible refine gate_dst (N := 3) rfl ?_); refine box_event ?hg (N := 3) ?hd (cs := #[.int .i64 0, .int .i64 0, .int .i64 0, .int .i64 0]) (t := 26) ?hr ?_; (case hd => rfl); (case hg => rfl); (case hr => first | (go_simp; done) | (go_simp; rfl)); intro gb967 hg w8 hbox hb; have BK967 := Aside0.mk (hbox); have GW967 := sA hg; have GE967 := sA hg; have NB960_967 := nA hg BK960; have NB967_960 := nB hg BK960; have NB961_967 := nA hg BK961; have NB967_961 := nB hg BK961; replace BK960 := kB BK960 hb; replace BK961 := kB BK961 hb; replace HB := lB hb; clear hb hbox hg; have hnb9 := NB967_960.out; have hnc9 := NB960_967.out; have hnb10 := NB967_961.out; have hnc10 := NB961_967.out; obtain ⟨hcz11_0, hcz11_1, hcz11_2, hcz11_3, hfz11_0, hfz11_1, hfz11_2, hfz11_3⟩ := cz4 BK967; obtain ⟨hcz12_0, hcz12_1, hcz12_2, hcz12_3, hfz12_0, hfz12_1, hfz12_2, hfz12_3⟩ := cz4 BK961))
 refine bodyPost_ret (results_cell_row rfl _ _ gb961 26 #[.int .i64 t962, .int .i64 t963, .int .i64 t964, .int .i64 t965] (0, 0) _ rfl (by refine dr ?_; refine blk_put (cs := #[.int .i64 t962, .int .i64 t963, .int .i64 t964, .int .i64 0]) ?_ 3 _ rfl; refine dr ?_; refine blk_put (cs := #[.int .i64 t962, .int .i64 t963, .int .i64 0, .int .i64 0]) ?_ 2 _ rfl; refine dr ?_; refine blk_put (cs := #[.int .i64 t962, .int .i64 0, .int .i64 0, .int .i64 0]) ?_ 1 _ rfl; refine dr ?_; refine blk_put (cs := #[.int .i64 0, .int .i64 0, .int .i64 0, .int .i64 0]) ?_ 0 _ rfl; refine dr ?_; refine blk_far ?_ NB961_967.out _; refine dr ?_; refine blk_far ?_ NB961_967.out _; refine dr ?_; refine blk_far ?_ NB961_967.out _; refine dr ?_; refine blk_far ?_ NB961_967.out _; exact bkA BK961) Try.underlying26 rfl (by kernel_rfl)) rfl ?_
 exact finA blA
/-! ### impl_moversCode: function 141 -/
def impl_moversCode.f (k : Nat) (l0 : List (S26)) : Option (Int) := (impl_areMatrices.f k l0).bind fun t1104 => (if t1104 = true then (if (l0.length : Int) < 1 then (some 2) else (if (l0.length : Int) > 6 then (some 2) else (some 0))) else (some 1))
theorem impl_moversCode.mono : ∀ a0 k, LeO (impl_moversCode.f k a0) (impl_moversCode.f (k + 1) a0) := by
 intro a0 k
 unfold impl_moversCode.f
 repeat' first
   | (with_reducible exact impl_areMatrices.mono _ _)
   | (with_reducible exact LeO.refl _)
   | (with_reducible exact LeO.none _)
   | (with_reducible refine LeO.ite ?_ ?_)
   | (with_reducible refine LeO.bind ?_ (fun _ => ?_))
set_option maxHeartbeats 8000000 in
set_option maxRecDepth 100000 in
theorem impl_moversCode.calls (k : Nat) (A0 : Option Addr) (c0 : Nat) (l0 : List (S26)) (r : Int) (w : World) (hr0 : Kd.C k26 w A0 l0.length l0) (hc0 : l0.length ≤ c0) (h : impl_moversCode.f k l0 = some r) :
  Calls Try.prog 141 #[.slice A0 l0.length c0] w fun e w' => e = .returned (.int .i64 r) ∧ Below w.heap.size w w' := by
 have HR0 := Aside0.mk hr0
 have HC0 := Aside0.mk hc0
 clear hr0 hc0
 have HB := Aside0.mk (Below.refl w.heap.size w)
 have H := h
 unfold impl_moversCode.f at H
 clear h
 replace H := bS H
 obtain ⟨t1104, A2, H⟩ := H
 try dsimp only at H
 by_cases c3 : t1104 = true
 ·
  subst c3
  rw [if_pos rfl] at H
  try dsimp only at H
  by_cases c4 : (l0.length : Int) < 1
  ·
   rw [if_pos c4] at H
   have c4b0 := decide_eq_true c4
   have c4b1 : decide (l0.length < 1) = true := decide_eq_true (by omega)
   clear c4
   obtain rfl := Option.some.inj H
   go_enter Try.func141, Try.ntmps141
   go_wp2_with (first | ((with_reducible refine gate_callee (f := 97) rfl ?_); refine goesL_ (some 5) rfl rfl Try.func97 (by kernel_rfl) rfl #[.slice A0 l0.length c0] rfl hA ?_; (with_reducible refine (impl_areMatrices.calls k _ _ l0 true _ ?side1 ?side2 A2.out).mono ?_); (case side1 => repeat (first | exact HR0.out | (with_reducible refine Kd.C_alloc ?_ _) | (with_reducible refine Kd.C_drewN ?_ _) | (with_reducible refine Kd.C_drew ?_))); (case side2 => exact HC0.out); rintro e w5 ⟨rfl, hb⟩; refine ⟨_, rfl, ?_⟩; replace HB := lB hb; (try clear hb); (try clear hb2); (try clear hk); (try clear hi)))
   go_ret
   exact finA blA
  ·
   rw [if_neg c4] at H
   have c4b0 := decide_eq_false c4
   have c4b1 : decide (l0.length < 1) = false := decide_eq_false (by omega)
   clear c4
   by_cases c6 : (l0.length : Int) > 6
   ·
    rw [if_pos c6] at H
    have c6b0 : decide (6 < (l0.length : Int)) = true := decide_eq_true c6
    have c6b1 : decide (6 < l0.length) = true := decide_eq_true (by omega)
    clear c6
    obtain rfl := Option.some.inj H
    go_enter Try.func141, Try.ntmps141
    go_wp2_with (first | ((with_reducible refine gate_callee (f := 97) rfl ?_); refine goesL_ (some 5) rfl rfl Try.func97 (by kernel_rfl) rfl #[.slice A0 l0.length c0] rfl hA ?_; (with_reducible refine (impl_areMatrices.calls k _ _ l0 true _ ?side1 ?side2 A2.out).mono ?_); (case side1 => repeat (first | exact HR0.out | (with_reducible refine Kd.C_alloc ?_ _) | (with_reducible refine Kd.C_drewN ?_ _) | (with_reducible refine Kd.C_drew ?_))); (case side2 => exact HC0.out); rintro e w7 ⟨rfl, hb⟩; refine ⟨_, rfl, ?_⟩; replace HB := lB hb; (try clear hb); (try clear hb2); (try clear hk); (try clear hi)))
    go_ret
    exact finA blA
   ·
    rw [if_neg c6] at H
    have c6b0 : decide (6 < (l0.length : Int)) = false := decide_eq_false c6
    have c6b1 : decide (6 < l0.length) = false := decide_eq_false (by omega)
    clear c6
    obtain rfl := Option.some.inj H
    go_enter Try.func141, Try.ntmps141
    go_wp2_with (first | ((with_reducible refine gate_callee (f := 97) rfl ?_); refine goesL_ (some 5) rfl rfl Try.func97 (by kernel_rfl) rfl #[.slice A0 l0.length c0] rfl hA ?_; (with_reducible refine (impl_areMatrices.calls k _ _ l0 true _ ?side1 ?side2 A2.out).mono ?_); (case side1 => repeat (first | exact HR0.out | (with_reducible refine Kd.C_alloc ?_ _) | (with_reducible refine Kd.C_drewN ?_ _) | (with_reducible refine Kd.C_drew ?_))); (case side2 => exact HC0.out); rintro e w8 ⟨rfl, hb⟩; refine ⟨_, rfl, ?_⟩; replace HB := lB hb; (try clear hb); (try clear hb2); (try clear hk); (try clear hi)))
    go_ret
    exact finA blA
 ·
  replace c3 := Bool.eq_false_iff.mpr c3
  subst c3
  rw [if_neg (show ¬ (false = true) by decide)] at H
  try dsimp only at H
  obtain rfl := Option.some.inj H
  go_enter Try.func141, Try.ntmps141
  go_wp2_with (first | ((with_reducible refine gate_callee (f := 97) rfl ?_); refine goesL_ (some 5) rfl rfl Try.func97 (by kernel_rfl) rfl #[.slice A0 l0.length c0] rfl hA ?_; (with_reducible refine (impl_areMatrices.calls k _ _ l0 false _ ?side1 ?side2 A2.out).mono ?_); (case side1 => repeat (first | exact HR0.out | (with_reducible refine Kd.C_alloc ?_ _) | (with_reducible refine Kd.C_drewN ?_ _) | (with_reducible refine Kd.C_drew ?_))); (case side2 => exact HC0.out); rintro e w9 ⟨rfl, hb⟩; refine ⟨_, rfl, ?_⟩; replace HB := lB hb; (try clear hb); (try clear hb2); (try clear hk); (try clear hi)))
  go_ret
  exact finA blA
end Go.Proofs.Ytccpccnnbacgjaa.PAll
