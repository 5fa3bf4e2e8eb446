-- turned for this claim out of the kit's print: the same functions, packed anew
import Derived.Test.YtccpccnnbacgjaaQx
import Derived.Test.YtccpccnnbacgjaaQLtoBall
import Derived.Test.YtccpccnnbacgjaaQbitsDiv64
import Derived.Test.YtccpccnnbacgjaaQimplIsBall
import Derived.Test.YtccpccnnbacgjaaQimplnearCode
import Derived.Test.YtccpccnnbacgjaaQimplneighbour
import Derived.Test.YtccpccnnbacgjaaQspecl01Parent
namespace Go.Proofs.Ytccpccnnbacgjaa.PAll
open Go.RowKit Go.Proofs.YtccpccnnbacgjaaW.PrintWords Go.Proofs.YtccpccnnbacgjaaW.PrintLast Go.Proofs.YtccpccnnbacgjaaW.PrintMore
attribute [local go_sem] Go.Proofs.Ytccpccnnbacgjaa.Aux.setCell_drewN Go.Proofs.Ytccpccnnbacgjaa.Aux.isSome_setCell max2_int min2_int max_two min_two max_three min_three max_four min_four   -- for this text's walks alone
set_option linter.unusedVariables false
set_option linter.unusedSimpArgs false
/-! ### impl_ballAt: function 125 -/
def impl_ballAt.j0 : Nat → Int → Int → Int → Int → Int → Bool → Option (Int × Int × Int × Bool)
 | 0, _, _, _, _, _, _ => none
 | k + 1, x0, x1, x2, x3, x10, x24 => if x24 = true then (some (x3, 0, 0, true)) else (if x10 < (-6) then (some (0, 0, 0, false)) else ((impl_power.f k x0 (wrap64 (x3 + 6))).bind fun t352 => ((impl_unit.f k x0 x1).bind fun t353 => ((impl_unit.f k x0 x2).bind fun t354 => ((impl_inverse.f k t354 t352).bind fun t355 => ((impl_times.f k t353 t355 t352).bind fun t356 => ((impl_power.f k x0 (wrap64 (x10 + 6))).bind fun t357 => ((impl_times.f k t356 t357 t352).bind fun t358 => ((impl_ofMark.f k x0 x3 t358).bind fun bt359 => (some (bt359.1, bt359.2.1, bt359.2.2.1, bt359.2.2.2)))))))))))
def impl_ballAt.f (k : Nat) (a0 : Int) (a1 : Int) (a2 : Int) (a3 : Int) : Option (Int × Int × Int × Bool) := (impl_isLevel.f a3).bind fun t349 => (if t349 = true then ((impl_valuation.f k a0 a1).bind fun t350 => ((impl_valuation.f k a0 a2).bind fun t351 => (if a1 = 0 then (impl_ballAt.j0 k a0 a1 a2 a3 (wrap64 (t350 - t351)) true) else (impl_ballAt.j0 k a0 a1 a2 a3 (wrap64 (t350 - t351)) (decide ((wrap64 (t350 - t351)) ≥ a3)))))) else (some (0, 0, 0, false)))
theorem impl_ballAt.mono_l : ∀ k, (∀ y0 y1 y2 y3 y4 y5, LeO (impl_ballAt.j0 k y0 y1 y2 y3 y4 y5) (impl_ballAt.j0 (k + 1) y0 y1 y2 y3 y4 y5))
 | 0 => fun _ _ _ _ _ _ r h => by simp [impl_ballAt.j0] at h
 | k + 1 => by
  have ih0 := impl_ballAt.mono_l k
  ·
   intro y0 y1 y2 y3 y4 y5
   unfold impl_ballAt.j0
   repeat' first
   | (with_reducible exact ih0 _ _ _ _ _ _)
   | (with_reducible exact impl_inverse.mono _ _ _)
   | (with_reducible exact impl_ofMark.mono _ _ _ _)
   | (with_reducible exact impl_power.mono _ _ _)
   | (with_reducible exact impl_times.mono _ _ _ _)
   | (with_reducible exact impl_unit.mono _ _ _)
   | (with_reducible exact impl_valuation.mono _ _ _)
   | (with_reducible exact LeO.refl _)
   | (with_reducible exact LeO.none _)
   | (with_reducible refine LeO.ite ?_ ?_)
   | (with_reducible refine LeO.bind ?_ (fun _ => ?_))
theorem impl_ballAt.mono : ∀ a0 a1 a2 a3 k, LeO (impl_ballAt.f k a0 a1 a2 a3) (impl_ballAt.f (k + 1) a0 a1 a2 a3) := by
 intro a0 a1 a2 a3 k
 have ih0 := impl_ballAt.mono_l k
 unfold impl_ballAt.f
 repeat' first
   | (with_reducible exact ih0 _ _ _ _ _ _)
   | (with_reducible exact impl_inverse.mono _ _ _)
   | (with_reducible exact impl_ofMark.mono _ _ _ _)
   | (with_reducible exact impl_power.mono _ _ _)
   | (with_reducible exact impl_times.mono _ _ _ _)
   | (with_reducible exact impl_unit.mono _ _ _)
   | (with_reducible exact impl_valuation.mono _ _ _)
   | (with_reducible exact LeO.refl _)
   | (with_reducible exact LeO.none _)
   | (with_reducible refine LeO.ite ?_ ?_)
   | (with_reducible refine LeO.bind ?_ (fun _ => ?_))
set_option maxHeartbeats 8000000 in
set_option maxRecDepth 100000 in
theorem impl_ballAt.calls (k : Nat) (a0 : Int) (a1 : Int) (a2 : Int) (a3 : Int) (r1 : Int) (r2 : Int) (r3 : Int) (r4 : Bool) (w : World) (h : impl_ballAt.f k a0 a1 a2 a3 = some (r1, r2, r3, r4)) :
  Calls Try.prog 125 #[.int .i64 a0, .int .i64 a1, .int .i64 a2, .int .i64 a3] w fun e w' => e = .returned (.tuple #[.agg #[.int .i64 r1, .int .i64 r2, .int .i64 r3], .bool r4]) ∧ Below w.heap.size w w' := by
 have hu39 := Try.underlying39
 have HB := Aside0.mk (Below.refl w.heap.size w)
 have H := h
 unfold impl_ballAt.f at H
 clear h
 replace H := bS H
 obtain ⟨t349, A5, H⟩ := H
 try dsimp only at H
 by_cases c6 : t349 = true
 ·
  subst c6
  rw [if_pos rfl] at H
  try dsimp only at H
  replace H := bS H
  obtain ⟨t350, A7, H⟩ := H
  try dsimp only at H
  replace H := bS H
  obtain ⟨t351, A8, H⟩ := H
  try dsimp only at H
  have HC9 := Aside0.mk H
  clear H
  go_enter Try.func125, Try.ntmps125
  go_upto_region 4 with (first | ((with_reducible refine gate_dst (N := 8) rfl ?_); refine box_event ?hg (N := 8) ?hd (cs := #[.int .i64 0, .int .i64 0, .int .i64 0]) (t := 39) ?hr ?_; (case hd => rfl); (case hg => rfl); (case hr => first | (go_simp; done) | (go_simp; rfl)); intro gb348 hg w10 hbox hb; have BK348 := Aside0.mk (hbox); have GW348 := sA hg; have GE348 := sA hg; replace HB := lB hb; clear hb hbox hg) | ((with_reducible refine gate_callee (f := 92) rfl ?_); refine goesL_ (some 14) rfl rfl Try.func92 (by kernel_rfl) rfl #[.int .i64 a3] rfl hA ?_; (with_reducible refine (impl_isLevel.calls a3 true _ A5.out).mono ?_); rintro e w' ⟨rfl, ⟨nd, rfl⟩⟩; refine ⟨_, rfl, ?_⟩) | ((with_reducible refine gate_callee (f := 123) rfl ?_); refine goesL_ (some 19) rfl rfl Try.func123 (by kernel_rfl) rfl #[.int .i64 a0, .int .i64 a1] rfl hA ?_; (with_reducible refine (impl_valuation.calls k a0 a1 t350 _ A7.out).mono ?_); rintro e w' ⟨rfl, ⟨nd, rfl⟩⟩; refine ⟨_, rfl, ?_⟩) | ((with_reducible refine gate_callee (f := 123) rfl ?_); refine goesL_ (some 22) rfl rfl Try.func123 (by kernel_rfl) rfl #[.int .i64 a0, .int .i64 a2] rfl hA ?_; (with_reducible refine (impl_valuation.calls k a0 a2 t351 _ A8.out).mono ?_); rintro e w' ⟨rfl, ⟨nd, rfl⟩⟩; refine ⟨_, rfl, ?_⟩))
  (try simp only [Act.put, List.setIfInBounds_toArray, List.set_cons_zero, List.set_cons_succ])
  go_cut [24] (fun v24 wc => ∃ (kq : Nat) (x24_8 : Bool), v24 = .bool x24_8 ∧ Aside0 (impl_ballAt.j0 kq a0 a1 a2 a3 (wrap64 (t350 - t351)) x24_8 = some (r1, r2, r3, r4)) ∧ Aside0 (kq ≤ k) ∧ Aside0 (wc.heap[gb348]? = some (.cells #[.int .i64 0, .int .i64 0, .int .i64 0] 39 (0, 0))) ∧ Aside0 (Below w.heap.size w wc))
  case first =>
   have H := HC9.out
   clear HC9
   by_cases c11 : a1 = 0
   ·
    rw [if_pos c11] at H
    have c11b0 : (a1 == 0) = true := beq_iff_eq.mpr c11
    have c11b1 : (a1 != 0) = false := bne_eq_false_iff_eq.mpr c11
    clear c11
    (first | rw [c11b0] | (simp only [i64_w, i32_w]; rw [c11b0]) | skip)
    have H' := Aside0.mk H
    clear H
    go_wp2
    go_meet
    case rel => exact ⟨_, (true), hB, H', ⟨by first | omega | exact Nat.le_refl _⟩, ⟨bkA BK348⟩, ⟨blA⟩⟩
   ·
    rw [if_neg c11] at H
    have c11b0 : (a1 == 0) = false := beq_eq_false_iff_ne.mpr c11
    have c11b1 : (a1 != 0) = true := bne_iff_ne.mpr c11
    (first | rw [c11b0] | (simp only [i64_w, i32_w]; rw [c11b0]) | skip)
    have H' := Aside0.mk H
    clear H
    go_wp2
    go_meet
    case rel => exact ⟨_, (decide ((wrap64 (t350 - t351)) ≥ a3)), hB, H', ⟨by first | omega | exact Nat.le_refl _⟩, ⟨bkA BK348⟩, ⟨blA⟩⟩
  case rest =>
   clear HC9
   try clear c6
   try clear c11
   try clear c11b0
   try clear c11b1
   obtain ⟨kq, x24_8, rfl, HA, HJ8, BK348, HB⟩ := hcut
   cases kq with
   | zero => exact absurd HA.out (by simp [impl_ballAt.j0])
   | succ kj8 =>
    have H := HA.out
    clear HA
    simp only [impl_ballAt.j0] at H
    by_cases c12 : x24_8 = true
    ·
     subst c12
     rw [if_pos rfl] at H
     try dsimp only at H
     simp only [Option.some.injEq, Prod.mk.injEq] at H
     obtain ⟨rfl, rfl, rfl, rfl⟩ := H
     have hcz13_0 : wc.cell? ⟨gb348, 0, none⟩ = some (.int .i64 0) := cA BK348 0
     have hcz13_1 : wc.cell? ⟨gb348, 1, none⟩ = some (.int .i64 0) := cA BK348 1
     have hcz13_2 : wc.cell? ⟨gb348, 2, none⟩ = some (.int .i64 0) := cA BK348 2
     have hfz13_0 := blk_frozen BK348.out 0
     have hfz13_1 := blk_frozen BK348.out 1
     have hfz13_2 := blk_frozen BK348.out 2
     go_wp2
     refine bodyPost_ret (results_ct rfl _ _ gb348 39 #[.int .i64 a3, .int .i64 0, .int .i64 0] (0, 0) _ rfl (by (with_reducible repeat (first | refine blk_drewN ?_ _ | refine blk_drew ?_ | refine blk_alloc ?_ _)); refine blk_put (cs := #[.int .i64 a3, .int .i64 0, .int .i64 0]) ?_ 2 _ rfl; (with_reducible repeat (first | refine blk_drewN ?_ _ | refine blk_drew ?_ | refine blk_alloc ?_ _)); refine blk_put (cs := #[.int .i64 a3, .int .i64 0, .int .i64 0]) ?_ 1 _ rfl; (with_reducible repeat (first | refine blk_drewN ?_ _ | refine blk_drew ?_ | refine blk_alloc ?_ _)); refine blk_put (cs := #[.int .i64 0, .int .i64 0, .int .i64 0]) ?_ 0 _ rfl; (with_reducible repeat (first | refine blk_drewN ?_ _ | refine blk_drew ?_ | refine blk_alloc ?_ _)); exact BK348.out) Try.underlying39 rfl (by kernel_rfl)) rfl ?_
     exact finA blA
    ·
     replace c12 := Bool.eq_false_iff.mpr c12
     subst c12
     rw [if_neg (show ¬ (false = true) by decide)] at H
     try dsimp only at H
     by_cases c14 : (wrap64 (t350 - t351)) < (-6)
     ·
      rw [if_pos c14] at H
      have c14b0 := decide_eq_true c14
      clear c14
      simp only [Option.some.injEq, Prod.mk.injEq] at H
      obtain ⟨rfl, rfl, rfl, rfl⟩ := H
      have hcz15_0 : wc.cell? ⟨gb348, 0, none⟩ = some (.int .i64 0) := cA BK348 0
      have hcz15_1 : wc.cell? ⟨gb348, 1, none⟩ = some (.int .i64 0) := cA BK348 1
      have hcz15_2 : wc.cell? ⟨gb348, 2, none⟩ = some (.int .i64 0) := cA BK348 2
      have hfz15_0 := blk_frozen BK348.out 0
      have hfz15_1 := blk_frozen BK348.out 1
      have hfz15_2 := blk_frozen BK348.out 2
      go_wp2
      refine bodyPost_ret (results_ct rfl _ _ gb348 39 #[.int .i64 0, .int .i64 0, .int .i64 0] (0, 0) _ rfl (by (with_reducible repeat (first | refine blk_drewN ?_ _ | refine blk_drew ?_ | refine blk_alloc ?_ _)); refine blk_put (cs := #[.int .i64 0, .int .i64 0, .int .i64 0]) ?_ 2 _ rfl; (with_reducible repeat (first | refine blk_drewN ?_ _ | refine blk_drew ?_ | refine blk_alloc ?_ _)); refine blk_put (cs := #[.int .i64 0, .int .i64 0, .int .i64 0]) ?_ 1 _ rfl; (with_reducible repeat (first | refine blk_drewN ?_ _ | refine blk_drew ?_ | refine blk_alloc ?_ _)); refine blk_put (cs := #[.int .i64 0, .int .i64 0, .int .i64 0]) ?_ 0 _ rfl; (with_reducible repeat (first | refine blk_drewN ?_ _ | refine blk_drew ?_ | refine blk_alloc ?_ _)); exact BK348.out) Try.underlying39 rfl (by kernel_rfl)) rfl ?_
      exact finA blA
     ·
      rw [if_neg c14] at H
      have c14b0 := decide_eq_false c14
      clear c14
      replace H := bS H
      obtain ⟨t352, A16, H⟩ := H
      try dsimp only at H
      replace H := bS H
      obtain ⟨t353, A17, H⟩ := H
      try dsimp only at H
      replace H := bS H
      obtain ⟨t354, A18, H⟩ := H
      try dsimp only at H
      replace H := bS H
      obtain ⟨t355, A19, H⟩ := H
      try dsimp only at H
      replace H := bS H
      obtain ⟨t356, A20, H⟩ := H
      try dsimp only at H
      replace H := bS H
      obtain ⟨t357, A21, H⟩ := H
      try dsimp only at H
      replace H := bS H
      obtain ⟨t358, A22, H⟩ := H
      try dsimp only at H
      replace H := bS H
      obtain ⟨⟨t359, t360, t361, t362⟩, A23, H⟩ := H
      try dsimp only at H
      simp only [Option.some.injEq, Prod.mk.injEq] at H
      obtain ⟨rfl, rfl, rfl, rfl⟩ := H
      go_wp2_with (first | ((with_reducible refine gate_callee (f := 93) rfl ?_); refine goesL_ (some 41) rfl rfl Try.func93 (by kernel_rfl) rfl #[.int .i64 a0, .int .i64 (wrap64 (a3 + 6))] rfl hA ?_; (with_reducible refine (impl_power.calls kj8 a0 (wrap64 (a3 + 6)) t352 _ A16.out).mono ?_); rintro e w' ⟨rfl, ⟨nd, rfl⟩⟩; refine ⟨_, rfl, ?_⟩; (try (rw [drewN_self wc]; generalize hq_ : World.drewN wc _ = wc; replace BK348 := Aside0.mk (by rw [← hq_]; exact (bkA BK348)); replace HB := Aside0.mk (by rw [← hq_]; exact blA); clear hq_))) | ((with_reducible refine gate_callee (f := 150) rfl ?_); refine goesL_ (some 44) rfl rfl Try.func150 (by kernel_rfl) rfl #[.int .i64 a0, .int .i64 a1] rfl hA ?_; (with_reducible refine (impl_unit.calls kj8 a0 a1 t353 _ A17.out).mono ?_); rintro e w' ⟨rfl, ⟨nd, rfl⟩⟩; refine ⟨_, rfl, ?_⟩; (try (rw [drewN_self wc]; generalize hq_ : World.drewN wc _ = wc; replace BK348 := Aside0.mk (by rw [← hq_]; exact (bkA BK348)); replace HB := Aside0.mk (by rw [← hq_]; exact blA); clear hq_))) | ((with_reducible refine gate_callee (f := 150) rfl ?_); refine goesL_ (some 47) rfl rfl Try.func150 (by kernel_rfl) rfl #[.int .i64 a0, .int .i64 a2] rfl hA ?_; (with_reducible refine (impl_unit.calls kj8 a0 a2 t354 _ A18.out).mono ?_); rintro e w' ⟨rfl, ⟨nd, rfl⟩⟩; refine ⟨_, rfl, ?_⟩; (try (rw [drewN_self wc]; generalize hq_ : World.drewN wc _ = wc; replace BK348 := Aside0.mk (by rw [← hq_]; exact (bkA BK348)); replace HB := Aside0.mk (by rw [← hq_]; exact blA); clear hq_))) | ((with_reducible refine gate_callee (f := 151) rfl ?_); refine goesL_ (some 49) rfl rfl Try.func151 (by kernel_rfl) rfl #[.int .i64 t354, .int .i64 t352] rfl hA ?_; (with_reducible refine (impl_inverse.calls kj8 t354 t352 t355 _ A19.out).mono ?_); rintro e w' ⟨rfl, ⟨nd, rfl⟩⟩; refine ⟨_, rfl, ?_⟩; (try (rw [drewN_self wc]; generalize hq_ : World.drewN wc _ = wc; replace BK348 := Aside0.mk (by rw [← hq_]; exact (bkA BK348)); replace HB := Aside0.mk (by rw [← hq_]; exact blA); clear hq_))) | ((with_reducible refine gate_callee (f := 149) rfl ?_); refine goesL_ (some 51) rfl rfl Try.func149 (by kernel_rfl) rfl #[.int .i64 t353, .int .i64 t355, .int .i64 t352] rfl hA ?_; (with_reducible refine (impl_times.calls kj8 t353 t355 t352 t356 _ A20.out).mono ?_); rintro e w' ⟨rfl, ⟨nd, rfl⟩⟩; refine ⟨_, rfl, ?_⟩; (try (rw [drewN_self wc]; generalize hq_ : World.drewN wc _ = wc; replace BK348 := Aside0.mk (by rw [← hq_]; exact (bkA BK348)); replace HB := Aside0.mk (by rw [← hq_]; exact blA); clear hq_))) | ((with_reducible refine gate_callee (f := 93) rfl ?_); refine goesL_ (some 58) rfl rfl Try.func93 (by kernel_rfl) rfl #[.int .i64 a0, .int .i64 (wrap64 ((wrap64 (t350 - t351)) + 6))] rfl hA ?_; (with_reducible refine (impl_power.calls kj8 a0 (wrap64 ((wrap64 (t350 - t351)) + 6)) t357 _ A21.out).mono ?_); rintro e w' ⟨rfl, ⟨nd, rfl⟩⟩; refine ⟨_, rfl, ?_⟩; (try (rw [drewN_self wc]; generalize hq_ : World.drewN wc _ = wc; replace BK348 := Aside0.mk (by rw [← hq_]; exact (bkA BK348)); replace HB := Aside0.mk (by rw [← hq_]; exact blA); clear hq_))) | ((with_reducible refine gate_callee (f := 149) rfl ?_); refine goesL_ (some 60) rfl rfl Try.func149 (by kernel_rfl) rfl #[.int .i64 t356, .int .i64 t357, .int .i64 t352] rfl hA ?_; (with_reducible refine (impl_times.calls kj8 t356 t357 t352 t358 _ A22.out).mono ?_); rintro e w' ⟨rfl, ⟨nd, rfl⟩⟩; refine ⟨_, rfl, ?_⟩; (try (rw [drewN_self wc]; generalize hq_ : World.drewN wc _ = wc; replace BK348 := Aside0.mk (by rw [← hq_]; exact (bkA BK348)); replace HB := Aside0.mk (by rw [← hq_]; exact blA); clear hq_))) | ((with_reducible refine gate_callee (f := 133) rfl ?_); refine goesL_ (some 61) rfl rfl Try.func133 (by kernel_rfl) rfl #[.int .i64 a0, .int .i64 a3, .int .i64 t358] rfl hA ?_; (with_reducible refine (impl_ofMark.calls kj8 a0 a3 t358 t359 t360 t361 t362 _ A23.out).mono ?_); rintro e w24 ⟨rfl, hb⟩; refine ⟨_, rfl, ?_⟩; replace BK348 := kB BK348 hb; replace HB := lB hb; (try clear hb); (try clear hb2); (try clear hk); (try clear hi); have hcz25_0 : w24.cell? ⟨gb348, 0, none⟩ = some (.int .i64 0) := cA BK348 0; have hcz25_1 : w24.cell? ⟨gb348, 1, none⟩ = some (.int .i64 0) := cA BK348 1; have hcz25_2 : w24.cell? ⟨gb348, 2, none⟩ = some (.int .i64 0) := cA BK348 2; have hfz25_0 := blk_frozen BK348.out 0; have hfz25_1 := blk_frozen BK348.out 1; have hfz25_2 := blk_frozen BK348.out 2))
      refine bodyPost_ret (results_ct rfl _ _ gb348 39 #[.int .i64 t359, .int .i64 t360, .int .i64 t361] (0, 0) _ rfl (by (with_reducible repeat (first | refine blk_drewN ?_ _ | refine blk_drew ?_ | refine blk_alloc ?_ _)); refine blk_put (cs := #[.int .i64 t359, .int .i64 t360, .int .i64 0]) ?_ 2 _ rfl; (with_reducible repeat (first | refine blk_drewN ?_ _ | refine blk_drew ?_ | refine blk_alloc ?_ _)); refine blk_put (cs := #[.int .i64 t359, .int .i64 0, .int .i64 0]) ?_ 1 _ rfl; (with_reducible repeat (first | refine blk_drewN ?_ _ | refine blk_drew ?_ | refine blk_alloc ?_ _)); refine blk_put (cs := #[.int .i64 0, .int .i64 0, .int .i64 0]) ?_ 0 _ rfl; (with_reducible repeat (first | refine blk_drewN ?_ _ | refine blk_drew ?_ | refine blk_alloc ?_ _)); exact BK348.out) Try.underlying39 rfl (by kernel_rfl)) rfl ?_
      exact finA blA
 ·
  replace c6 := Bool.eq_false_iff.mpr c6
  subst c6
  rw [if_neg (show ¬ (false = true) by decide)] at H
  try dsimp only at H
  simp only [Option.some.injEq, Prod.mk.injEq] at H
  obtain ⟨rfl, rfl, rfl, rfl⟩ := H
  go_enter Try.func125, Try.ntmps125
  go_wp2_with (first | ((with_reducible refine gate_dst (N := 8) rfl ?_); refine box_event ?hg (N := 8) ?hd (cs := #[.int .i64 0, .int .i64 0, .int .i64 0]) (t := 39) ?hr ?_; (case hd => rfl); (case hg => rfl); (case hr => first | (go_simp; done) | (go_simp; rfl)); intro gb348 hg w26 hbox hb; have BK348 := Aside0.mk (hbox); have GW348 := sA hg; have GE348 := sA hg; replace HB := lB hb; clear hb hbox hg) | ((with_reducible refine gate_callee (f := 92) rfl ?_); refine goesL_ (some 14) rfl rfl Try.func92 (by kernel_rfl) rfl #[.int .i64 a3] rfl hA ?_; (with_reducible refine (impl_isLevel.calls a3 false _ A5.out).mono ?_); rintro e w' ⟨rfl, ⟨nd, rfl⟩⟩; refine ⟨_, rfl, ?_⟩; (try (rw [drewN_self w26]; generalize hq_ : World.drewN w26 _ = w26; replace BK348 := Aside0.mk (by rw [← hq_]; exact (bkA BK348)); replace HB := Aside0.mk (by rw [← hq_]; exact blA); clear hq_)); have hcz27_0 : w26.cell? ⟨gb348, 0, none⟩ = some (.int .i64 0) := cA BK348 0; have hcz27_1 : w26.cell? ⟨gb348, 1, none⟩ = some (.int .i64 0) := cA BK348 1; have hcz27_2 : w26.cell? ⟨gb348, 2, none⟩ = some (.int .i64 0) := cA BK348 2; have hfz27_0 := blk_frozen BK348.out 0; have hfz27_1 := blk_frozen BK348.out 1; have hfz27_2 := blk_frozen BK348.out 2))
  refine bodyPost_ret (results_ct rfl _ _ gb348 39 #[.int .i64 0, .int .i64 0, .int .i64 0] (0, 0) _ rfl (by (with_reducible repeat (first | refine blk_drewN ?_ _ | refine blk_drew ?_ | refine blk_alloc ?_ _)); refine blk_put (cs := #[.int .i64 0, .int .i64 0, .int .i64 0]) ?_ 2 _ rfl; (with_reducible repeat (first | refine blk_drewN ?_ _ | refine blk_drew ?_ | refine blk_alloc ?_ _)); refine blk_put (cs := #[.int .i64 0, .int .i64 0, .int .i64 0]) ?_ 1 _ rfl; (with_reducible repeat (first | refine blk_drewN ?_ _ | refine blk_drew ?_ | refine blk_alloc ?_ _)); refine blk_put (cs := #[.int .i64 0, .int .i64 0, .int .i64 0]) ?_ 0 _ rfl; (with_reducible repeat (first | refine blk_drewN ?_ _ | refine blk_drew ?_ | refine blk_alloc ?_ _)); exact BK348.out) Try.underlying39 rfl (by kernel_rfl)) rfl ?_
  exact finA blA
/-! ### spec_l02Near: function 115 -/
def spec_l02Near.f (k : Nat) (a0 : Int) (a1_0 : Int) (a1_1 : Int) (a1_2 : Int) : Option ((List (S39)) × Bool) := (spec_l01Parent.f k a0 a1_0 a1_1 a1_2).bind fun bt178 => ((spec_l02Children.f k a0 a1_0 a1_1 a1_2).bind fun bt183 => ((some (([(⟨bt178.1, bt178.2.1, bt178.2.2.1⟩ : S39)] : List (S39)) : List (S39))).bind fun y187 => (if y187.length + bt183.1.length < 5864062014805 then ((some (y187 ++ bt183.1 : List (S39))).bind fun y190 => (if bt178.2.2.2 = true then (some (y190, bt183.2)) else (some (y190, false)))) else (none))))
theorem spec_l02Near.mono : ∀ a0 a1 a2 a3 k, LeO (spec_l02Near.f k a0 a1 a2 a3) (spec_l02Near.f (k + 1) a0 a1 a2 a3) := by
 intro a0 a1 a2 a3 k
 unfold spec_l02Near.f
 repeat' first
   | (with_reducible exact spec_l01Parent.mono _ _ _ _ _)
   | (with_reducible exact spec_l02Children.mono _ _ _ _ _)
   | (with_reducible exact LeO.refl _)
   | (with_reducible exact LeO.none _)
   | (with_reducible refine LeO.ite ?_ ?_)
   | (with_reducible refine LeO.bind ?_ (fun _ => ?_))
set_option maxHeartbeats 8000000 in
set_option maxRecDepth 100000 in
theorem spec_l02Near.calls (k : Nat) (a0 : Int) (a1_0 : Int) (a1_1 : Int) (a1_2 : Int) (r1 : List (S39)) (r2 : Bool) (w : World) (h : spec_l02Near.f k a0 a1_0 a1_1 a1_2 = some (r1, r2)) :
  Calls Try.prog 115 #[.int .i64 a0, .agg #[.int .i64 a1_0, .int .i64 a1_1, .int .i64 a1_2]] w fun e w' => ∃ v0_ : Value, e = .returned (.tuple #[v0_, .bool r2]) ∧ Kd.R k39 39 w' w.heap.size (fun _ => True) v0_ r1 ∧ Below w.heap.size w w' := by
 have hu39 := Try.underlying39
 have HB := Aside0.mk (Below.refl w.heap.size w)
 have H := h
 unfold spec_l02Near.f at H
 clear h
 replace H := bS H
 obtain ⟨⟨t178, t179, t180, t181⟩, A3, H⟩ := H
 try dsimp only at H
 replace H := bS H
 obtain ⟨⟨t183, t186⟩, A4, H⟩ := H
 try dsimp only at H
 obtain ⟨y187, hy187⟩ : ∃ y_ : List (S39), y_ = (([(⟨t178, t179, t180⟩ : S39)] : List (S39))) := ⟨_, rfl⟩
 replace H : (if y187.length + t183.length < 5864062014805 then ((some (y187 ++ t183 : List (S39))).bind fun y190 => (if t181 = true then (some (y190, t186)) else (some (y190, false)))) else (none)) = some (r1, r2) := by first | (rw [hy187]; with_reducible exact H) | (have H2_ := (Option.bind_some _ _).symm.trans H; rw [hy187]; with_reducible exact H2_) | (have H2_ := (Option.bind_some _ _).symm.trans H; with_reducible exact H2_) | with_reducible exact H | (rw [hy187]; exact H) | exact H
 have Ny187 := Aside0.mk hy187
 clear hy187
 by_cases c5 : y187.length + t183.length < 5864062014805
 ·
  rw [if_pos c5] at H
  have LMc5 := Aside0.mk c5
  clear c5
  obtain ⟨y190, hy190⟩ : ∃ y_ : List (S39), y_ = (y187 ++ t183) := ⟨_, rfl⟩
  replace H : (if t181 = true then (some (y190, t186)) else (some (y190, false))) = some (r1, r2) := by first | (rw [hy190]; with_reducible exact H) | (have H2_ := (Option.bind_some _ _).symm.trans H; rw [hy190]; with_reducible exact H2_) | (have H2_ := (Option.bind_some _ _).symm.trans H; with_reducible exact H2_) | with_reducible exact H | (rw [hy190]; exact H) | exact H
  have Ny190 := Aside0.mk hy190
  clear hy190
  by_cases c6 : t181 = true
  ·
   subst c6
   rw [if_pos rfl] at H
   try dsimp only at H
   simp only [Option.some.injEq, Prod.mk.injEq] at H
   obtain ⟨rfl, rfl⟩ := H
   go_enter Try.func115, Try.ntmps115
   go_wp2_with (first | ((with_reducible refine gate_dst (N := 3) rfl ?_); refine box_event ?hg (N := 3) ?hd (cs := #[.int .i64 a1_0, .int .i64 a1_1, .int .i64 a1_2]) (t := 39) ?hr ?_; (case hd => rfl); (case hg => rfl); (case hr => first | (go_simp; done) | (go_simp; rfl)); intro gb177 hg w7 hbox hb; have BK177 := Aside0.mk (hbox); have GW177 := sA hg; have GE177 := sA hg; replace HB := lB hb; clear hb hbox hg; have hcz8_0 : w7.cell? ⟨gb177, 0, none⟩ = some (.int .i64 a1_0) := cA BK177 0; have hcz8_1 : w7.cell? ⟨gb177, 1, none⟩ = some (.int .i64 a1_1) := cA BK177 1; have hcz8_2 : w7.cell? ⟨gb177, 2, none⟩ = some (.int .i64 a1_2) := cA BK177 2; have hfz8_0 := blk_frozen BK177.out 0; have hfz8_1 := blk_frozen BK177.out 1; have hfz8_2 := blk_frozen BK177.out 2) | ((with_reducible refine gate_callee (f := 144) rfl ?_); refine goesL_ (some 13) rfl rfl Try.func144 (by kernel_rfl) rfl #[.int .i64 a0, .agg #[.int .i64 a1_0, .int .i64 a1_1, .int .i64 a1_2]] rfl hA ?_; (with_reducible refine (spec_l01Parent.calls k a0 a1_0 a1_1 a1_2 t178 t179 t180 true _ A3.out).mono ?_); rintro e w9 ⟨rfl, hb⟩; refine ⟨_, rfl, ?_⟩; replace BK177 := kB BK177 hb; replace HB := lB hb; (try clear hb); (try clear hb2); (try clear hk); (try clear hi)) | ((with_reducible refine gate_dst (N := 6) rfl ?_); refine box_event ?hg (N := 6) ?hd (cs := #[.int .i64 0, .int .i64 0, .int .i64 0]) (t := 39) ?hr ?_; (case hd => rfl); (case hg => rfl); (case hr => first | (go_simp; done) | (go_simp; rfl)); intro gb182 hg w10 hbox hb; have BK182 := Aside0.mk (hbox); have GW182 := sA hg; have GE182 := sA hg; have NB177_182 := nA hg BK177; have NB182_177 := nB hg BK177; replace BK177 := kB BK177 hb; replace HB := lB hb; clear hb hbox hg; have hnb11 := NB182_177.out; have hnc11 := NB177_182.out; have hcz12_0 : w10.cell? ⟨gb182, 0, none⟩ = some (.int .i64 0) := cA BK182 0; have hcz12_1 : w10.cell? ⟨gb182, 1, none⟩ = some (.int .i64 0) := cA BK182 1; have hcz12_2 : w10.cell? ⟨gb182, 2, none⟩ = some (.int .i64 0) := cA BK182 2; have hfz12_0 := blk_frozen BK182.out 0; have hfz12_1 := blk_frozen BK182.out 1; have hfz12_2 := blk_frozen BK182.out 2; have hcz13_0 : w10.cell? ⟨gb177, 0, none⟩ = some (.int .i64 a1_0) := cA BK177 0; have hcz13_1 : w10.cell? ⟨gb177, 1, none⟩ = some (.int .i64 a1_1) := cA BK177 1; have hcz13_2 : w10.cell? ⟨gb177, 2, none⟩ = some (.int .i64 a1_2) := cA BK177 2; have hfz13_0 := blk_frozen BK177.out 0; have hfz13_1 := blk_frozen BK177.out 1; have hfz13_2 := blk_frozen BK177.out 2) | ((with_reducible refine gate_callee (f := 145) rfl ?_); refine goesL_ (some 19) rfl rfl Try.func145 (by kernel_rfl) rfl #[.int .i64 a0, .agg #[.int .i64 a1_0, .int .i64 a1_1, .int .i64 a1_2]] rfl hA ?_; (with_reducible refine (spec_l02Children.calls k a0 a1_0 a1_1 a1_2 t183 t186 _ A4.out).mono ?_); rintro e w14 ⟨v184, rfl, ho0, hb⟩; refine ⟨_, rfl, ?_⟩; have n0_ := Aside0.mk (Kd.R_lower (Kd.R_newB (Kd.R_newB ho0 (g := gb177) (o := .cells #[.int .i64 a1_0, .int .i64 a1_1, .int .i64 a1_2] 39 (0, 0)) (bkF BK177)) (g := gb182) (o := .cells #[.int .i64 t178, .int .i64 t179, .int .i64 t180] 39 (0, 0)) (by (with_reducible repeat (first | refine blk_drewN ?_ _ | refine blk_drew ?_ | refine blk_alloc ?_ _)); refine blk_put (cs := #[.int .i64 t178, .int .i64 t179, .int .i64 0]) ?_ 2 _ rfl; (with_reducible repeat (first | refine blk_drewN ?_ _ | refine blk_drew ?_ | refine blk_alloc ?_ _)); refine blk_put (cs := #[.int .i64 t178, .int .i64 0, .int .i64 0]) ?_ 1 _ rfl; (with_reducible repeat (first | refine blk_drewN ?_ _ | refine blk_drew ?_ | refine blk_alloc ?_ _)); refine blk_put (cs := #[.int .i64 0, .int .i64 0, .int .i64 0]) ?_ 0 _ rfl; (with_reducible repeat (first | refine blk_drewN ?_ _ | refine blk_drew ?_ | refine blk_alloc ?_ _)); exact BK182.out)) (below_size blA)); have n1_ := Aside0.mk (blk_below (g := gb177) (o := .cells #[.int .i64 a1_0, .int .i64 a1_1, .int .i64 a1_2] 39 (0, 0)) (bkF BK177) hb); have n2_ := Aside0.mk (blk_below (g := gb182) (o := .cells #[.int .i64 t178, .int .i64 t179, .int .i64 t180] 39 (0, 0)) (by (with_reducible repeat (first | refine blk_drewN ?_ _ | refine blk_drew ?_ | refine blk_alloc ?_ _)); refine blk_put (cs := #[.int .i64 t178, .int .i64 t179, .int .i64 0]) ?_ 2 _ rfl; (with_reducible repeat (first | refine blk_drewN ?_ _ | refine blk_drew ?_ | refine blk_alloc ?_ _)); refine blk_put (cs := #[.int .i64 t178, .int .i64 0, .int .i64 0]) ?_ 1 _ rfl; (with_reducible repeat (first | refine blk_drewN ?_ _ | refine blk_drew ?_ | refine blk_alloc ?_ _)); refine blk_put (cs := #[.int .i64 0, .int .i64 0, .int .i64 0]) ?_ 0 _ rfl; (with_reducible repeat (first | refine blk_drewN ?_ _ | refine blk_drew ?_ | refine blk_alloc ?_ _)); exact BK182.out) hb); have n3_ := lB hb; clear BK177; clear BK182; clear HB; have HO185 := n0_; have BK177 := n1_; have BK182 := n2_; have HB := n3_; clear n0_ n1_ n2_ n3_; (try clear hb); (try clear hb2); (try clear hk); (try clear hi); (try clear ho0); have hcz15_0 : w14.cell? ⟨gb182, 0, none⟩ = some (.int .i64 t178) := cA BK182 0; have hcz15_1 : w14.cell? ⟨gb182, 1, none⟩ = some (.int .i64 t179) := cA BK182 1; have hcz15_2 : w14.cell? ⟨gb182, 2, none⟩ = some (.int .i64 t180) := cA BK182 2; have hfz15_0 := blk_frozen BK182.out 0; have hfz15_1 := blk_frozen BK182.out 1; have hfz15_2 := blk_frozen BK182.out 2) | ((with_reducible refine gate_dst (N := 23) rfl ?_); refine Kd.R_lit k39 _ 39 ?hg (N := 23) ?hd (xs := ([(⟨t178, t179, t180⟩ : S39)] : List (S39))) (inner := [.int .i64 t178, .int .i64 t179, .int .i64 t180]) (ok := fun _ => True) (okp := fun _ => True) ?hr ?hp (fun _ hk => hk) trivial (Below.refl _ _) (Nat.le_refl _) (by simp) ?_; (case hd => rfl); (case hg => rfl); (case hr => first | (go_simp; done) | (go_simp; rfl)); (case hp => exact (Reps.c3 (show Kd.M k39 _ _ _ (⟨t178, t179, t180⟩ : S39) [.int .i64 t178, .int .i64 t179, .int .i64 t180] from (k39_mkM _ _ _ (⟨t178, t179, t180⟩ : S39) )) (Reps.none _ _))); intro v188 w16 ho17 hb hg_ hnew_; clear hg_ hnew_; (first | rw [← Ny187.out] at ho17 | (simp only [Int.reduceToNat] at ho17; rw [← Ny187.out] at ho17)); have HO189 := Aside0.mk (Kd.R_lower (Kd.R_newB (Kd.R_newB (Kd.R_new' ho17 (Kd.R_lt (rA HO185))) (bkA BK177)) (bkA BK182)) (below_size blA)); replace HO185 := Aside0.mk (Kd.R_elder' (rA HO185) (Kd.R_base ho17) hb); replace BK177 := kB BK177 hb; replace BK182 := kB BK182 hb; replace HB := lB hb; clear hb ho17; obtain ⟨Ao19, co19, eo19⟩ := Kd.R_slice HO185.out; subst eo19) | ((with_reducible refine gate_builtin (b := .append) (xs := #[.tmp 23, .tmp 24]) rfl ?_); at_builtin; refine Kd.R_append_rows k39 (w0 := w) w.heap.size rfl (.tmp 23) (.tmp 24) 36 39 (.agg #[(.int .i64 0), (.int .i64 0), (.int .i64 0)]) 24 rfl Try.underlying36 info39 rfl (by decide) (by omega) v188 y187 t183 _ _ _ (fun k_ => some k_ ≠ (.slice Ao19 t183.length co19 : Value).ownBlock ∧ k_ ≠ gb177 ∧ k_ ≠ gb182) (fun _ => False) rfl rfl ?aO ?aR (fun _ _ h => h) (fun _ h => h.elim) ?aF ?aB ?aS ?aL ?_; (case aR => repeat (first | exact (Kd.R_reads' HO185.out).2.2 | (with_reducible refine Kd.C_alloc ?_ _) | (with_reducible refine Kd.C_drewN ?_ _) | (with_reducible refine Kd.C_drew ?_))); (case aB => exact blA); (case aF => exact (fun k_ hk => ⟨Kd.fresh' (Kd.R_lt (rA HO185)) k_ hk, Kd.freshB (bkA BK177) k_ hk, Kd.freshB (bkA BK182) k_ hk⟩)); (case aO => exact (by (with_reducible repeat (first | apply Kd.R_alloc | apply Kd.R_drewN | apply Kd.R_drew)); exact Kd.R_mono HO189.out (fun _ hk => ⟨hk.1.1.2, ⟨hk.1.2, hk.2⟩⟩))); (case aS => exact (below_size blA)); (case aL => have := LMc5.out; omega); intro v191 w18 ho hb hg hat; rw [← Ny190.out] at ho; have HO192 := Aside0.mk (ho); replace BK177 := Aside0.mk (blk_grown (bkA BK177) hg (Kd.R_away HO189.out (fun _ hk => hk.1.2))); replace BK182 := Aside0.mk (blk_grown (bkA BK182) hg (Kd.R_away HO189.out (fun _ hk => hk.2))); replace HO185 := Aside0.mk (Kd.R_after (ok := (fun k_ => k_ ≠ gb177 ∧ k_ ≠ gb182)) (by (with_reducible repeat (first | apply Kd.R_alloc | apply Kd.R_drewN | apply Kd.R_drew)); exact Kd.R_mono HO185.out (fun _ hk => ⟨⟨hk.1.1.2, hk.1.2⟩, hk.2⟩)) hg hat); replace HB := Aside0.mk (hb); clear HO189; clear ho hb hg hat))
   go_ret2
   exact ⟨_, by first | rfl | (simp [errW_none, errW_some] <;> rfl) | (simp [*, errW_none, errW_some] <;> rfl), by (with_reducible repeat (first | apply Kd.R_alloc | apply Kd.R_drewN | apply Kd.R_drew)); exact Kd.R_mono HO192.out (fun _ hk => trivial), blA⟩
  ·
   replace c6 := Bool.eq_false_iff.mpr c6
   subst c6
   rw [if_neg (show ¬ (false = true) by decide)] at H
   try dsimp only at H
   simp only [Option.some.injEq, Prod.mk.injEq] at H
   obtain ⟨rfl, rfl⟩ := H
   go_enter Try.func115, Try.ntmps115
   go_wp2_with (first | ((with_reducible refine gate_dst (N := 3) rfl ?_); refine box_event ?hg (N := 3) ?hd (cs := #[.int .i64 a1_0, .int .i64 a1_1, .int .i64 a1_2]) (t := 39) ?hr ?_; (case hd => rfl); (case hg => rfl); (case hr => first | (go_simp; done) | (go_simp; rfl)); intro gb177 hg w20 hbox hb; have BK177 := Aside0.mk (hbox); have GW177 := sA hg; have GE177 := sA hg; replace HB := lB hb; clear hb hbox hg; have hcz21_0 : w20.cell? ⟨gb177, 0, none⟩ = some (.int .i64 a1_0) := cA BK177 0; have hcz21_1 : w20.cell? ⟨gb177, 1, none⟩ = some (.int .i64 a1_1) := cA BK177 1; have hcz21_2 : w20.cell? ⟨gb177, 2, none⟩ = some (.int .i64 a1_2) := cA BK177 2; have hfz21_0 := blk_frozen BK177.out 0; have hfz21_1 := blk_frozen BK177.out 1; have hfz21_2 := blk_frozen BK177.out 2) | ((with_reducible refine gate_callee (f := 144) rfl ?_); refine goesL_ (some 13) rfl rfl Try.func144 (by kernel_rfl) rfl #[.int .i64 a0, .agg #[.int .i64 a1_0, .int .i64 a1_1, .int .i64 a1_2]] rfl hA ?_; (with_reducible refine (spec_l01Parent.calls k a0 a1_0 a1_1 a1_2 t178 t179 t180 false _ A3.out).mono ?_); rintro e w22 ⟨rfl, hb⟩; refine ⟨_, rfl, ?_⟩; replace BK177 := kB BK177 hb; replace HB := lB hb; (try clear hb); (try clear hb2); (try clear hk); (try clear hi)) | ((with_reducible refine gate_dst (N := 6) rfl ?_); refine box_event ?hg (N := 6) ?hd (cs := #[.int .i64 0, .int .i64 0, .int .i64 0]) (t := 39) ?hr ?_; (case hd => rfl); (case hg => rfl); (case hr => first | (go_simp; done) | (go_simp; rfl)); intro gb182 hg w23 hbox hb; have BK182 := Aside0.mk (hbox); have GW182 := sA hg; have GE182 := sA hg; have NB177_182 := nA hg BK177; have NB182_177 := nB hg BK177; replace BK177 := kB BK177 hb; replace HB := lB hb; clear hb hbox hg; have hnb24 := NB182_177.out; have hnc24 := NB177_182.out; have hcz25_0 : w23.cell? ⟨gb182, 0, none⟩ = some (.int .i64 0) := cA BK182 0; have hcz25_1 : w23.cell? ⟨gb182, 1, none⟩ = some (.int .i64 0) := cA BK182 1; have hcz25_2 : w23.cell? ⟨gb182, 2, none⟩ = some (.int .i64 0) := cA BK182 2; have hfz25_0 := blk_frozen BK182.out 0; have hfz25_1 := blk_frozen BK182.out 1; have hfz25_2 := blk_frozen BK182.out 2; have hcz26_0 : w23.cell? ⟨gb177, 0, none⟩ = some (.int .i64 a1_0) := cA BK177 0; have hcz26_1 : w23.cell? ⟨gb177, 1, none⟩ = some (.int .i64 a1_1) := cA BK177 1; have hcz26_2 : w23.cell? ⟨gb177, 2, none⟩ = some (.int .i64 a1_2) := cA BK177 2; have hfz26_0 := blk_frozen BK177.out 0; have hfz26_1 := blk_frozen BK177.out 1; have hfz26_2 := blk_frozen BK177.out 2) | ((with_reducible refine gate_callee (f := 145) rfl ?_); refine goesL_ (some 19) rfl rfl Try.func145 (by kernel_rfl) rfl #[.int .i64 a0, .agg #[.int .i64 a1_0, .int .i64 a1_1, .int .i64 a1_2]] rfl hA ?_; (with_reducible refine (spec_l02Children.calls k a0 a1_0 a1_1 a1_2 t183 t186 _ A4.out).mono ?_); rintro e w27 ⟨v184, rfl, ho0, hb⟩; refine ⟨_, rfl, ?_⟩; have n0_ := Aside0.mk (Kd.R_lower (Kd.R_newB (Kd.R_newB ho0 (g := gb177) (o := .cells #[.int .i64 a1_0, .int .i64 a1_1, .int .i64 a1_2] 39 (0, 0)) (bkF BK177)) (g := gb182) (o := .cells #[.int .i64 t178, .int .i64 t179, .int .i64 t180] 39 (0, 0)) (by (with_reducible repeat (first | refine blk_drewN ?_ _ | refine blk_drew ?_ | refine blk_alloc ?_ _)); refine blk_put (cs := #[.int .i64 t178, .int .i64 t179, .int .i64 0]) ?_ 2 _ rfl; (with_reducible repeat (first | refine blk_drewN ?_ _ | refine blk_drew ?_ | refine blk_alloc ?_ _)); refine blk_put (cs := #[.int .i64 t178, .int .i64 0, .int .i64 0]) ?_ 1 _ rfl; (with_reducible repeat (first | refine blk_drewN ?_ _ | refine blk_drew ?_ | refine blk_alloc ?_ _)); refine blk_put (cs := #[.int .i64 0, .int .i64 0, .int .i64 0]) ?_ 0 _ rfl; (with_reducible repeat (first | refine blk_drewN ?_ _ | refine blk_drew ?_ | refine blk_alloc ?_ _)); exact BK182.out)) (below_size blA)); have n1_ := Aside0.mk (blk_below (g := gb177) (o := .cells #[.int .i64 a1_0, .int .i64 a1_1, .int .i64 a1_2] 39 (0, 0)) (bkF BK177) hb); have n2_ := Aside0.mk (blk_below (g := gb182) (o := .cells #[.int .i64 t178, .int .i64 t179, .int .i64 t180] 39 (0, 0)) (by (with_reducible repeat (first | refine blk_drewN ?_ _ | refine blk_drew ?_ | refine blk_alloc ?_ _)); refine blk_put (cs := #[.int .i64 t178, .int .i64 t179, .int .i64 0]) ?_ 2 _ rfl; (with_reducible repeat (first | refine blk_drewN ?_ _ | refine blk_drew ?_ | refine blk_alloc ?_ _)); refine blk_put (cs := #[.int .i64 t178, .int .i64 0, .int .i64 0]) ?_ 1 _ rfl; (with_reducible repeat (first | refine blk_drewN ?_ _ | refine blk_drew ?_ | refine blk_alloc ?_ _)); refine blk_put (cs := #[.int .i64 0, .int .i64 0, .int .i64 0]) ?_ 0 _ rfl; (with_reducible repeat (first | refine blk_drewN ?_ _ | refine blk_drew ?_ | refine blk_alloc ?_ _)); exact BK182.out) hb); have n3_ := lB hb; clear BK177; clear BK182; clear HB; have HO185 := n0_; have BK177 := n1_; have BK182 := n2_; have HB := n3_; clear n0_ n1_ n2_ n3_; (try clear hb); (try clear hb2); (try clear hk); (try clear hi); (try clear ho0); have hcz28_0 : w27.cell? ⟨gb182, 0, none⟩ = some (.int .i64 t178) := cA BK182 0; have hcz28_1 : w27.cell? ⟨gb182, 1, none⟩ = some (.int .i64 t179) := cA BK182 1; have hcz28_2 : w27.cell? ⟨gb182, 2, none⟩ = some (.int .i64 t180) := cA BK182 2; have hfz28_0 := blk_frozen BK182.out 0; have hfz28_1 := blk_frozen BK182.out 1; have hfz28_2 := blk_frozen BK182.out 2) | ((with_reducible refine gate_dst (N := 23) rfl ?_); refine Kd.R_lit k39 _ 39 ?hg (N := 23) ?hd (xs := ([(⟨t178, t179, t180⟩ : S39)] : List (S39))) (inner := [.int .i64 t178, .int .i64 t179, .int .i64 t180]) (ok := fun _ => True) (okp := fun _ => True) ?hr ?hp (fun _ hk => hk) trivial (Below.refl _ _) (Nat.le_refl _) (by simp) ?_; (case hd => rfl); (case hg => rfl); (case hr => first | (go_simp; done) | (go_simp; rfl)); (case hp => exact (Reps.c3 (show Kd.M k39 _ _ _ (⟨t178, t179, t180⟩ : S39) [.int .i64 t178, .int .i64 t179, .int .i64 t180] from (k39_mkM _ _ _ (⟨t178, t179, t180⟩ : S39) )) (Reps.none _ _))); intro v188 w29 ho30 hb hg_ hnew_; clear hg_ hnew_; (first | rw [← Ny187.out] at ho30 | (simp only [Int.reduceToNat] at ho30; rw [← Ny187.out] at ho30)); have HO189 := Aside0.mk (Kd.R_lower (Kd.R_newB (Kd.R_newB (Kd.R_new' ho30 (Kd.R_lt (rA HO185))) (bkA BK177)) (bkA BK182)) (below_size blA)); replace HO185 := Aside0.mk (Kd.R_elder' (rA HO185) (Kd.R_base ho30) hb); replace BK177 := kB BK177 hb; replace BK182 := kB BK182 hb; replace HB := lB hb; clear hb ho30; obtain ⟨Ao32, co32, eo32⟩ := Kd.R_slice HO185.out; subst eo32) | ((with_reducible refine gate_builtin (b := .append) (xs := #[.tmp 23, .tmp 24]) rfl ?_); at_builtin; refine Kd.R_append_rows k39 (w0 := w) w.heap.size rfl (.tmp 23) (.tmp 24) 36 39 (.agg #[(.int .i64 0), (.int .i64 0), (.int .i64 0)]) 24 rfl Try.underlying36 info39 rfl (by decide) (by omega) v188 y187 t183 _ _ _ (fun k_ => some k_ ≠ (.slice Ao32 t183.length co32 : Value).ownBlock ∧ k_ ≠ gb177 ∧ k_ ≠ gb182) (fun _ => False) rfl rfl ?aO ?aR (fun _ _ h => h) (fun _ h => h.elim) ?aF ?aB ?aS ?aL ?_; (case aR => repeat (first | exact (Kd.R_reads' HO185.out).2.2 | (with_reducible refine Kd.C_alloc ?_ _) | (with_reducible refine Kd.C_drewN ?_ _) | (with_reducible refine Kd.C_drew ?_))); (case aB => exact blA); (case aF => exact (fun k_ hk => ⟨Kd.fresh' (Kd.R_lt (rA HO185)) k_ hk, Kd.freshB (bkA BK177) k_ hk, Kd.freshB (bkA BK182) k_ hk⟩)); (case aO => exact (by (with_reducible repeat (first | apply Kd.R_alloc | apply Kd.R_drewN | apply Kd.R_drew)); exact Kd.R_mono HO189.out (fun _ hk => ⟨hk.1.1.2, ⟨hk.1.2, hk.2⟩⟩))); (case aS => exact (below_size blA)); (case aL => have := LMc5.out; omega); intro v191 w31 ho hb hg hat; rw [← Ny190.out] at ho; have HO192 := Aside0.mk (ho); replace BK177 := Aside0.mk (blk_grown (bkA BK177) hg (Kd.R_away HO189.out (fun _ hk => hk.1.2))); replace BK182 := Aside0.mk (blk_grown (bkA BK182) hg (Kd.R_away HO189.out (fun _ hk => hk.2))); replace HO185 := Aside0.mk (Kd.R_after (ok := (fun k_ => k_ ≠ gb177 ∧ k_ ≠ gb182)) (by (with_reducible repeat (first | apply Kd.R_alloc | apply Kd.R_drewN | apply Kd.R_drew)); exact Kd.R_mono HO185.out (fun _ hk => ⟨⟨hk.1.1.2, hk.1.2⟩, hk.2⟩)) hg hat); replace HB := Aside0.mk (hb); clear HO189; clear ho hb hg hat))
   go_ret2
   exact ⟨_, by first | rfl | (simp [errW_none, errW_some] <;> rfl) | (simp [*, errW_none, errW_some] <;> rfl), by (with_reducible repeat (first | apply Kd.R_alloc | apply Kd.R_drewN | apply Kd.R_drew)); exact Kd.R_mono HO192.out (fun _ hk => trivial), blA⟩
 ·
  rw [if_neg c5] at H
  exact absurd H (by simp)
end Go.Proofs.Ytccpccnnbacgjaa.PAll
