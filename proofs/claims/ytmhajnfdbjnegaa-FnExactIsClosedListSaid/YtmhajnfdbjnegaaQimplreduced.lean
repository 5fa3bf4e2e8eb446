-- turned for this claim out of the kit's print: the same functions, packed anew
import Derived.Test.YtmhajnfdbjnegaaQx
import Derived.Test.YtmhajnfdbjnegaaQimplIsMatrix
import Derived.Test.YtmhajnfdbjnegaaQimplgcd
namespace Go.Proofs.Ytmhajnfdbjnegaa.PAll
open Go.RowKit Go.Proofs.YtmhajnfdbjnegaaW.PrintWords Go.Proofs.YtmhajnfdbjnegaaW.PrintLast Go.Proofs.YtmhajnfdbjnegaaW.PrintMore
attribute [local go_sem] Go.Proofs.Ytmhajnfdbjnegaa.Aux.setCell_drewN Go.Proofs.Ytmhajnfdbjnegaa.Aux.isSome_setCell max2_int min2_int max_two min_two max_three min_three max_four min_four   -- for this text's walks alone
set_option linter.unusedVariables false
set_option linter.unusedSimpArgs false
attribute [local go_sem high] eqA25
/-! ### impl_reduced: function 88 -/
set_option maxHeartbeats 8000000 in
set_option maxRecDepth 100000 in
theorem impl_gcd.quiet (k : Nat) (a0 : Int) (a1 : Int) (r : Int) (w : World) (h : impl_gcd.f k a0 a1 = some r) :
    Calls Try.prog 92 #[.int .i64 a0, .int .i64 a1] w fun e w' => e = .returned (.int .i64 r) ∧ Drawn0 w w' := by
  have HB := Aside0.mk (Drawn0.refl w)
  have H : (impl_gcd.l0 k a0 a1) = some r := h
  clear h
  have H' := Aside0.mk H
  clear H
  go_enter Try.func92, Try.ntmps92
  go_wp2
  repeat (go_quiet (fail); try go_wp2)
  go_loopg [0, 1] k (fun kq v0 v1 w' => ∃ (x0_1 : Int) (x1_1 : Int), v0 = .int .i64 x0_1 ∧ v1 = .int .i64 x1_1 ∧ Aside0 (impl_gcd.l0 kq x0_1 x1_1 = some r) ∧ Aside0 (kq ≤ k) ∧ Aside0 (Drawn0 w w'))
  case atStart => exact ⟨(a0), (a1), rfl, rfl, H', ⟨Nat.le_refl _⟩, ⟨by repeat (first | exact HB.out | apply Drawn0.step | exact Drawn0.step HB.out 1)⟩⟩
  case round =>
    clear H'
    try clear p2
    obtain ⟨x0_1, x1_1, rfl, rfl, HA, HK1, HB⟩ := hrel
    cases gk with
    | zero => exact absurd HA.out (by simp [impl_gcd.l0])
    | succ k1 =>
      have H := HA.out
      clear HA
      simp only [impl_gcd.l0] at H
      by_cases c3 : x1_1 = 0
      · rw [if_pos c3] at H
        have c3b0 : (x1_1 == 0) = true := beq_iff_eq.mpr c3
        have c3b1 : (x1_1 != 0) = false := bne_eq_false_iff_eq.mpr c3
        clear c3
        obtain ⟨ji4, hji4⟩ : ∃ j_ : Int, (mx x0_1 (wrap64 (-x0_1))) = j_ := ⟨_, rfl⟩
        replace H : (some ji4) = some r := by first | (rw [hji4] at H; exact H) | (simp only [hji4] at H ⊢; exact H)
        have hji4_ : (if x0_1 < (wrap64 (-x0_1)) then (wrap64 (-x0_1)) else x0_1) = ji4 := hji4
        obtain rfl := Option.some.inj H
        go_wp2
        repeat (go_quiet (fail); try go_wp2)
        go_ret
        exact ⟨by first | rfl | (simp only [← hji4]; first | rfl | (simp <;> rfl)) | (simp [*] <;> rfl), by repeat (first | exact HB.out | apply Drawn0.step | exact Drawn0.step HB.out 1)⟩
      · rw [if_neg c3] at H
        have c3b0 : (x1_1 == 0) = false := beq_eq_false_iff_ne.mpr c3
        have c3b1 : (x1_1 != 0) = true := bne_iff_ne.mpr c3
        have H' := Aside0.mk H
        clear H
        go_wp2
        repeat (go_quiet (fail); try go_wp2)
        go_roundg k1
        case measure => have := HK1.out; omega
        case rel => exact ⟨(x1_1), (Int.tmod x0_1 x1_1), rfl, rfl, H', ⟨by have := HK1.out; omega⟩, ⟨by repeat (first | exact HB.out | apply Drawn0.step | exact Drawn0.step HB.out 1)⟩⟩
def impl_reduced.g (k : Nat) (a0_0 a0_1 a0_2 a0_3 b_ : Int) : Option (Int × Int × Int × Int × Bool) := if b_ = 0 then none else (impl_IsMatrix.f k (wrap64 (Int.tdiv a0_0 b_)) (wrap64 (Int.tdiv a0_1 b_)) (wrap64 (Int.tdiv a0_2 b_)) (wrap64 (Int.tdiv a0_3 b_))).bind fun t4 => some (wrap64 (Int.tdiv a0_0 b_), wrap64 (Int.tdiv a0_1 b_), wrap64 (Int.tdiv a0_2 b_), wrap64 (Int.tdiv a0_3 b_), t4)
def impl_reduced.nb (a b : Int) : Bool := decide (a < 0 ∨ (a = 0 ∧ b < 0))
def impl_reduced.by_ (a b t : Int) : Int := if impl_reduced.nb a b = true then wrap64 (-t) else t
def impl_reduced.f (k : Nat) (a0_0 a0_1 a0_2 a0_3 : Int) : Option (Int × Int × Int × Int × Bool) := (impl_gcd.f k a0_0 a0_1).bind fun t1 => (impl_gcd.f k a0_2 a0_3).bind fun t2 => (impl_gcd.f k t1 t2).bind fun t3 => impl_reduced.g k a0_0 a0_1 a0_2 a0_3 (impl_reduced.by_ a0_0 a0_1 t3)
theorem impl_reduced.mono : ∀ a0_0 a0_1 a0_2 a0_3 k, LeO (impl_reduced.f k a0_0 a0_1 a0_2 a0_3) (impl_reduced.f (k + 1) a0_0 a0_1 a0_2 a0_3) := by
  intro a b c d k
  unfold impl_reduced.f impl_reduced.g
  repeat' first
      | (with_reducible exact impl_gcd.mono _ _ _)
      | (with_reducible exact impl_IsMatrix.mono _ _ _ _ _)
      | (with_reducible exact LeO.refl _)
      | (with_reducible exact LeO.none _)
      | (with_reducible refine LeO.ite ?_ ?_)
      | (with_reducible refine LeO.bind ?_ (fun _ => ?_))
set_option maxHeartbeats 8000000 in
set_option maxRecDepth 100000 in
theorem impl_reduced.calls (k : Nat) (a0_0 a0_1 a0_2 a0_3 r1 r2 r3 r4 : Int) (r5 : Bool) (w : World) (h : impl_reduced.f k a0_0 a0_1 a0_2 a0_3 = some (r1, r2, r3, r4, r5)) :
    Calls Try.prog 88 #[.agg #[.int .i64 a0_0, .int .i64 a0_1, .int .i64 a0_2, .int .i64 a0_3]] w fun e w' => e = .returned (.tuple #[.agg #[.int .i64 r1, .int .i64 r2, .int .i64 r3, .int .i64 r4], .bool r5]) ∧ Below w.heap.size w w' := by
  unfold impl_reduced.f at h
  replace h := Option.bind_eq_some_iff.mp h
  obtain ⟨t1, A10, h⟩ := h
  have A1 := Aside0.mk A10
  clear A10
  replace h := Option.bind_eq_some_iff.mp h
  obtain ⟨t2, A20, h⟩ := h
  have A2 := Aside0.mk A20
  clear A20
  replace h := Option.bind_eq_some_iff.mp h
  obtain ⟨t3, A30, h⟩ := h
  have A3 := Aside0.mk A30
  clear A30
  have HB := Aside0.mk (Below.refl w.heap.size w)
  unfold impl_reduced.g at h
  by_cases c0 : (impl_reduced.by_ a0_0 a0_1 t3) = 0
  · rw [if_pos c0] at h; cases h
  rw [if_neg c0] at h
  replace h := Option.bind_eq_some_iff.mp h
  obtain ⟨t4, A40, h⟩ := h
  have A4 := Aside0.mk A40
  clear A40
  simp only [Option.some.injEq, Prod.mk.injEq] at h
  obtain ⟨rfl, rfl, rfl, rfl, rfl⟩ := h
  have c0b : ((impl_reduced.by_ a0_0 a0_1 t3) == 0) = false := beq_eq_false_iff_ne.mpr c0
  have c0c : ((impl_reduced.by_ a0_0 a0_1 t3) != 0) = true := bne_iff_ne.mpr c0
  go_enter Try.func88, Try.ntmps88
  go_wp2_with (first | ((with_reducible refine gate_dst (N := 1) rfl ?_); refine box_event ?hg (N := 1) ?hd (cs := #[.int .i64 a0_0, .int .i64 a0_1, .int .i64 a0_2, .int .i64 a0_3]) (t := 25) ?hr ?_; (case hd => rfl); (case hg => rfl); (case hr => first | (go_simp; done) | (go_simp; rfl)); intro ga hg wa hbox hb; have n0_ := Aside0.mk (below_step blA hb); have n1_ := Aside0.mk hbox; have n2_ := Aside0.mk (szA hg blA); clear HB; have HB := n0_; have BKa := n1_; have GEa := n2_; clear n0_ n1_ n2_; clear hb hbox hg) | ((with_reducible refine gate_dst (N := 2) rfl ?_); refine box_event ?hg (N := 2) ?hd (cs := #[.int .i64 0, .int .i64 0, .int .i64 0, .int .i64 0]) (t := 25) ?hr ?_; (case hd => rfl); (case hg => rfl); (case hr => first | (go_simp; done) | (go_simp; rfl)); intro gr hg wr hbox hb; have n0_ := Aside0.mk (blk_below (bkA BKa) hb); have n1_ := Aside0.mk (below_step blA hb); have n2_ := Aside0.mk hbox; have n3_ := Aside0.mk (szA hg blA); have n4_ := Aside0.mk (neA hg (bkA BKa)); clear BKa; clear HB; have BKa := n0_; have HB := n1_; have BKr := n2_; have GEr := n3_; have NEa_r := n4_; clear n0_ n1_ n2_ n3_ n4_; clear hb hbox hg))
  have NEr_a := Aside0.mk (Ne.symm NEa_r.out)
  have hca_0 : wr.cell? ⟨ga, 0, none⟩ = some (.int .i64 a0_0) := (blk_cell BKa.out 0).trans rfl
  have hca_1 : wr.cell? ⟨ga, 1, none⟩ = some (.int .i64 a0_1) := (blk_cell BKa.out 1).trans rfl
  have hca_2 : wr.cell? ⟨ga, 2, none⟩ = some (.int .i64 a0_2) := (blk_cell BKa.out 2).trans rfl
  have hca_3 : wr.cell? ⟨ga, 3, none⟩ = some (.int .i64 a0_3) := (blk_cell BKa.out 3).trans rfl
  go_quiet ((go_at_call 92; (first | (with_reducible refine Calls.quiet_of ((impl_gcd.quiet k a0_0 a0_1 t1 _ A1.out).mono fun _ _ h_ => ⟨h_.1, h_.2.out⟩)) | (with_reducible refine Calls.quiet_of ((impl_gcd.quiet k a0_2 a0_3 t2 _ A2.out).mono fun _ _ h_ => ⟨h_.1, h_.2.out⟩)) | (with_reducible refine Calls.quiet_of ((impl_gcd.quiet k t1 t2 t3 _ A3.out).mono fun _ _ h_ => ⟨h_.1, h_.2.out⟩)))))
  go_upto_region 2 with fail
  go_cut [37] from 22 to 37 (fun v wx => v = .bool (impl_reduced.nb a0_0 a0_1) ∧ wx = wr.drewN nq)
  case first =>
    by_cases e0 : a0_0 = 0
    · subst e0
      go_wp2_with fail
      all_goals go_meet
      all_goals refine ⟨congrArg Value.bool ?_, rfl⟩
      all_goals clear hca_0 hca_1 hca_2 hca_3
      all_goals unfold impl_reduced.nb
      all_goals (rw [Bool.eq_iff_iff]; simp)
    · have e0b : (a0_0 == 0) = false := beq_eq_false_iff_ne.mpr e0
      go_wp2_with fail
      all_goals go_meet
      all_goals refine ⟨congrArg Value.bool ?_, rfl⟩
      all_goals clear hca_0 hca_1 hca_2 hca_3
      all_goals unfold impl_reduced.nb
      all_goals (rw [Bool.eq_iff_iff]; simp [e0] at *; try omega)
  case rest =>
    obtain ⟨rfl, rfl⟩ := hcut
    obtain ⟨nb_, hnb_⟩ : ∃ x, x = impl_reduced.nb a0_0 a0_1 := ⟨_, rfl⟩
    rw [← hnb_]
    have HN := Aside0.mk hnb_
    clear hnb_
    go_upto_if 37 with fail
    go_cut [4] from 38 to 39 (fun v wx => v = .int .i64 (impl_reduced.by_ a0_0 a0_1 t3) ∧ wx = wr.drewN nq)
    case first =>
      go_wp2_with fail
      all_goals go_meet
      all_goals refine ⟨congrArg (Value.int .i64) ?_, rfl⟩
      all_goals (unfold impl_reduced.by_; rw [← HN.out])
      all_goals (try simp only [*])
      all_goals first | rfl | (simp; done)
    case rest =>
      obtain ⟨rfl, rfl⟩ := hcut
      go_wp2
      refine name_world (fun w' => w'.heap[gr]? = some (.cells #[.int .i64 0, .int .i64 0, .int .i64 0, .int .i64 0] 25 (0, 0)) ∧ w'.heap[ga]? = some (.cells #[.int .i64 a0_0, .int .i64 a0_1, .int .i64 a0_2, .int .i64 a0_3] 25 (0, 0)) ∧ Below w.heap.size w w') ⟨by repeat (first | (with_reducible exact BKr.out) | (with_reducible first | refine blk_drewN ?_ _ | refine blk_drew ?_ | refine blk_alloc ?_ _) | refine blk_far ?_ NEr_a.out _), by (with_reducible repeat (first | refine blk_drewN ?_ _ | refine blk_drew ?_ | refine blk_alloc ?_ _)); exact BKa.out, by repeat (first | (with_reducible exact HB.out) | (with_reducible first | apply pw_below_drewN | apply below_alloc | apply below_drew1) | refine below_set ?_ GEa.out)⟩ ?_
      clear BKr BKa HB
      clear hca_0 hca_1 hca_2 hca_3
      rintro wA ⟨hr, ha, hbel⟩
      have BKr := Aside0.mk hr
      have BKa := Aside0.mk ha
      have HB := Aside0.mk hbel
      clear hbel hr ha
      have hcr_0 : wA.cell? ⟨gr, 0, none⟩ = some (.int .i64 0) := (blk_cell BKr.out 0).trans rfl
      have hcr_1 : wA.cell? ⟨gr, 1, none⟩ = some (.int .i64 0) := (blk_cell BKr.out 1).trans rfl
      have hcr_2 : wA.cell? ⟨gr, 2, none⟩ = some (.int .i64 0) := (blk_cell BKr.out 2).trans rfl
      have hcr_3 : wA.cell? ⟨gr, 3, none⟩ = some (.int .i64 0) := (blk_cell BKr.out 3).trans rfl
      have hca_0 : wA.cell? ⟨ga, 0, none⟩ = some (.int .i64 a0_0) := (blk_cell BKa.out 0).trans rfl
      have hca_1 : wA.cell? ⟨ga, 1, none⟩ = some (.int .i64 a0_1) := (blk_cell BKa.out 1).trans rfl
      have hca_2 : wA.cell? ⟨ga, 2, none⟩ = some (.int .i64 a0_2) := (blk_cell BKa.out 2).trans rfl
      have hca_3 : wA.cell? ⟨ga, 3, none⟩ = some (.int .i64 a0_3) := (blk_cell BKa.out 3).trans rfl
      have hf_ : ∀ i, wA.frozen? ⟨ga, i, none⟩ = false := fun i => blk_frozen BKa.out i
      refine wp_loop_rounds 3 ?_
      rw [rounds_succ]; go_wp2
      refine wp_loop_rounds 3 ?_
      rw [rounds_succ]; go_wp2
      refine wp_region_still_tail 9 (by kernel_rfl) (by kernel_rfl) ?_
      change wpStill _ _ wA.drew (fun a' => wpList _ _ _ _ a' wA.drew) _ _
      simp only [List.take_succ_cons, List.take_zero, List.drop_succ_cons, List.drop_zero]
      repeat still_step
      refine wpStill_nil ?_
      go_wp2
      rw [rounds_succ]; go_wp2
      refine name_world (fun w' => w'.heap[gr]? = some (.cells #[.int .i64 0, .int .i64 0, .int .i64 0, .int .i64 0] 25 (0, 0)) ∧ w'.heap[ga]? = some (.cells #[.int .i64 (wrap64 (Int.tdiv a0_0 (impl_reduced.by_ a0_0 a0_1 t3))), .int .i64 a0_1, .int .i64 a0_2, .int .i64 a0_3] 25 (0, 0)) ∧ Below w.heap.size w w') ⟨by repeat (first | (with_reducible exact BKr.out) | (with_reducible first | refine blk_drewN ?_ _ | refine blk_drew ?_ | refine blk_alloc ?_ _) | refine blk_far ?_ NEr_a.out _), by (with_reducible repeat (first | refine blk_drewN ?_ _ | refine blk_drew ?_ | refine blk_alloc ?_ _)); refine blk_put (cs := #[.int .i64 a0_0, .int .i64 a0_1, .int .i64 a0_2, .int .i64 a0_3]) ?_ 0 _ rfl; (with_reducible repeat (first | refine blk_drewN ?_ _ | refine blk_drew ?_ | refine blk_alloc ?_ _)); exact BKa.out, by repeat (first | (with_reducible exact HB.out) | (with_reducible first | apply pw_below_drewN | apply below_alloc | apply below_drew1) | refine below_set ?_ GEa.out)⟩ ?_
      clear BKr BKa HB
      clear hcr_0 hcr_1 hcr_2 hcr_3 hca_0 hca_1 hca_2 hca_3 hf_
      rintro wB ⟨hr, ha, hbel⟩
      have BKr := Aside0.mk hr
      have BKa := Aside0.mk ha
      have HB := Aside0.mk hbel
      clear hbel hr ha
      have hcr_0 : wB.cell? ⟨gr, 0, none⟩ = some (.int .i64 0) := (blk_cell BKr.out 0).trans rfl
      have hcr_1 : wB.cell? ⟨gr, 1, none⟩ = some (.int .i64 0) := (blk_cell BKr.out 1).trans rfl
      have hcr_2 : wB.cell? ⟨gr, 2, none⟩ = some (.int .i64 0) := (blk_cell BKr.out 2).trans rfl
      have hcr_3 : wB.cell? ⟨gr, 3, none⟩ = some (.int .i64 0) := (blk_cell BKr.out 3).trans rfl
      have hca_0 : wB.cell? ⟨ga, 0, none⟩ = some (.int .i64 (wrap64 (Int.tdiv a0_0 (impl_reduced.by_ a0_0 a0_1 t3)))) := (blk_cell BKa.out 0).trans rfl
      have hca_1 : wB.cell? ⟨ga, 1, none⟩ = some (.int .i64 a0_1) := (blk_cell BKa.out 1).trans rfl
      have hca_2 : wB.cell? ⟨ga, 2, none⟩ = some (.int .i64 a0_2) := (blk_cell BKa.out 2).trans rfl
      have hca_3 : wB.cell? ⟨ga, 3, none⟩ = some (.int .i64 a0_3) := (blk_cell BKa.out 3).trans rfl
      have hf_ : ∀ i, wB.frozen? ⟨ga, i, none⟩ = false := fun i => blk_frozen BKa.out i
      refine wp_region_still_tail 9 (by kernel_rfl) (by kernel_rfl) ?_
      change wpStill _ _ wB.drew (fun a' => wpList _ _ _ _ a' wB.drew) _ _
      simp only [List.take_succ_cons, List.take_zero, List.drop_succ_cons, List.drop_zero]
      repeat still_step
      refine wpStill_nil ?_
      go_wp2
      rw [rounds_succ]; go_wp2
      rw [rounds_succ]; go_wp2
      refine wp_loop_rounds 3 ?_
      rw [rounds_succ]; go_wp2
      refine name_world (fun w' => w'.heap[gr]? = some (.cells #[.int .i64 0, .int .i64 0, .int .i64 0, .int .i64 0] 25 (0, 0)) ∧ w'.heap[ga]? = some (.cells #[.int .i64 (wrap64 (Int.tdiv a0_0 (impl_reduced.by_ a0_0 a0_1 t3))), .int .i64 (wrap64 (Int.tdiv a0_1 (impl_reduced.by_ a0_0 a0_1 t3))), .int .i64 a0_2, .int .i64 a0_3] 25 (0, 0)) ∧ Below w.heap.size w w') ⟨by repeat (first | (with_reducible exact BKr.out) | (with_reducible first | refine blk_drewN ?_ _ | refine blk_drew ?_ | refine blk_alloc ?_ _) | refine blk_far ?_ NEr_a.out _), by (with_reducible repeat (first | refine blk_drewN ?_ _ | refine blk_drew ?_ | refine blk_alloc ?_ _)); refine blk_put (cs := #[.int .i64 (wrap64 (Int.tdiv a0_0 (impl_reduced.by_ a0_0 a0_1 t3))), .int .i64 a0_1, .int .i64 a0_2, .int .i64 a0_3]) ?_ 1 _ rfl; (with_reducible repeat (first | refine blk_drewN ?_ _ | refine blk_drew ?_ | refine blk_alloc ?_ _)); exact BKa.out, by repeat (first | (with_reducible exact HB.out) | (with_reducible first | apply pw_below_drewN | apply below_alloc | apply below_drew1) | refine below_set ?_ GEa.out)⟩ ?_
      clear BKr BKa HB
      clear hcr_0 hcr_1 hcr_2 hcr_3 hca_0 hca_1 hca_2 hca_3 hf_
      rintro wC ⟨hr, ha, hbel⟩
      have BKr := Aside0.mk hr
      have BKa := Aside0.mk ha
      have HB := Aside0.mk hbel
      clear hbel hr ha
      have hcr_0 : wC.cell? ⟨gr, 0, none⟩ = some (.int .i64 0) := (blk_cell BKr.out 0).trans rfl
      have hcr_1 : wC.cell? ⟨gr, 1, none⟩ = some (.int .i64 0) := (blk_cell BKr.out 1).trans rfl
      have hcr_2 : wC.cell? ⟨gr, 2, none⟩ = some (.int .i64 0) := (blk_cell BKr.out 2).trans rfl
      have hcr_3 : wC.cell? ⟨gr, 3, none⟩ = some (.int .i64 0) := (blk_cell BKr.out 3).trans rfl
      have hca_0 : wC.cell? ⟨ga, 0, none⟩ = some (.int .i64 (wrap64 (Int.tdiv a0_0 (impl_reduced.by_ a0_0 a0_1 t3)))) := (blk_cell BKa.out 0).trans rfl
      have hca_1 : wC.cell? ⟨ga, 1, none⟩ = some (.int .i64 (wrap64 (Int.tdiv a0_1 (impl_reduced.by_ a0_0 a0_1 t3)))) := (blk_cell BKa.out 1).trans rfl
      have hca_2 : wC.cell? ⟨ga, 2, none⟩ = some (.int .i64 a0_2) := (blk_cell BKa.out 2).trans rfl
      have hca_3 : wC.cell? ⟨ga, 3, none⟩ = some (.int .i64 a0_3) := (blk_cell BKa.out 3).trans rfl
      have hf_ : ∀ i, wC.frozen? ⟨ga, i, none⟩ = false := fun i => blk_frozen BKa.out i
      refine wp_region_still_tail 9 (by kernel_rfl) (by kernel_rfl) ?_
      change wpStill _ _ wC.drew (fun a' => wpList _ _ _ _ a' wC.drew) _ _
      simp only [List.take_succ_cons, List.take_zero, List.drop_succ_cons, List.drop_zero]
      repeat still_step
      refine wpStill_nil ?_
      go_wp2
      rw [rounds_succ]; go_wp2
      refine name_world (fun w' => w'.heap[gr]? = some (.cells #[.int .i64 0, .int .i64 0, .int .i64 0, .int .i64 0] 25 (0, 0)) ∧ w'.heap[ga]? = some (.cells #[.int .i64 (wrap64 (Int.tdiv a0_0 (impl_reduced.by_ a0_0 a0_1 t3))), .int .i64 (wrap64 (Int.tdiv a0_1 (impl_reduced.by_ a0_0 a0_1 t3))), .int .i64 (wrap64 (Int.tdiv a0_2 (impl_reduced.by_ a0_0 a0_1 t3))), .int .i64 a0_3] 25 (0, 0)) ∧ Below w.heap.size w w') ⟨by repeat (first | (with_reducible exact BKr.out) | (with_reducible first | refine blk_drewN ?_ _ | refine blk_drew ?_ | refine blk_alloc ?_ _) | refine blk_far ?_ NEr_a.out _), by (with_reducible repeat (first | refine blk_drewN ?_ _ | refine blk_drew ?_ | refine blk_alloc ?_ _)); refine blk_put (cs := #[.int .i64 (wrap64 (Int.tdiv a0_0 (impl_reduced.by_ a0_0 a0_1 t3))), .int .i64 (wrap64 (Int.tdiv a0_1 (impl_reduced.by_ a0_0 a0_1 t3))), .int .i64 a0_2, .int .i64 a0_3]) ?_ 2 _ rfl; (with_reducible repeat (first | refine blk_drewN ?_ _ | refine blk_drew ?_ | refine blk_alloc ?_ _)); exact BKa.out, by repeat (first | (with_reducible exact HB.out) | (with_reducible first | apply pw_below_drewN | apply below_alloc | apply below_drew1) | refine below_set ?_ GEa.out)⟩ ?_
      clear BKr BKa HB
      clear hcr_0 hcr_1 hcr_2 hcr_3 hca_0 hca_1 hca_2 hca_3 hf_
      rintro wD ⟨hr, ha, hbel⟩
      have BKr := Aside0.mk hr
      have BKa := Aside0.mk ha
      have HB := Aside0.mk hbel
      clear hbel hr ha
      have hcr_0 : wD.cell? ⟨gr, 0, none⟩ = some (.int .i64 0) := (blk_cell BKr.out 0).trans rfl
      have hcr_1 : wD.cell? ⟨gr, 1, none⟩ = some (.int .i64 0) := (blk_cell BKr.out 1).trans rfl
      have hcr_2 : wD.cell? ⟨gr, 2, none⟩ = some (.int .i64 0) := (blk_cell BKr.out 2).trans rfl
      have hcr_3 : wD.cell? ⟨gr, 3, none⟩ = some (.int .i64 0) := (blk_cell BKr.out 3).trans rfl
      have hca_0 : wD.cell? ⟨ga, 0, none⟩ = some (.int .i64 (wrap64 (Int.tdiv a0_0 (impl_reduced.by_ a0_0 a0_1 t3)))) := (blk_cell BKa.out 0).trans rfl
      have hca_1 : wD.cell? ⟨ga, 1, none⟩ = some (.int .i64 (wrap64 (Int.tdiv a0_1 (impl_reduced.by_ a0_0 a0_1 t3)))) := (blk_cell BKa.out 1).trans rfl
      have hca_2 : wD.cell? ⟨ga, 2, none⟩ = some (.int .i64 (wrap64 (Int.tdiv a0_2 (impl_reduced.by_ a0_0 a0_1 t3)))) := (blk_cell BKa.out 2).trans rfl
      have hca_3 : wD.cell? ⟨ga, 3, none⟩ = some (.int .i64 a0_3) := (blk_cell BKa.out 3).trans rfl
      have hf_ : ∀ i, wD.frozen? ⟨ga, i, none⟩ = false := fun i => blk_frozen BKa.out i
      refine wp_region_still_tail 9 (by kernel_rfl) (by kernel_rfl) ?_
      change wpStill _ _ wD.drew (fun a' => wpList _ _ _ _ a' wD.drew) _ _
      simp only [List.take_succ_cons, List.take_zero, List.drop_succ_cons, List.drop_zero]
      repeat still_step
      refine wpStill_nil ?_
      go_wp2
      rw [rounds_succ]; go_wp2
      rw [rounds_succ]
      refine name_world (fun w' => w'.heap[gr]? = some (.cells #[.int .i64 0, .int .i64 0, .int .i64 0, .int .i64 0] 25 (0, 0)) ∧ w'.heap[ga]? = some (.cells #[.int .i64 (wrap64 (Int.tdiv a0_0 (impl_reduced.by_ a0_0 a0_1 t3))), .int .i64 (wrap64 (Int.tdiv a0_1 (impl_reduced.by_ a0_0 a0_1 t3))), .int .i64 (wrap64 (Int.tdiv a0_2 (impl_reduced.by_ a0_0 a0_1 t3))), .int .i64 (wrap64 (Int.tdiv a0_3 (impl_reduced.by_ a0_0 a0_1 t3)))] 25 (0, 0)) ∧ Below w.heap.size w w') ⟨by repeat (first | (with_reducible exact BKr.out) | (with_reducible first | refine blk_drewN ?_ _ | refine blk_drew ?_ | refine blk_alloc ?_ _) | refine blk_far ?_ NEr_a.out _), by (with_reducible repeat (first | refine blk_drewN ?_ _ | refine blk_drew ?_ | refine blk_alloc ?_ _)); refine blk_put (cs := #[.int .i64 (wrap64 (Int.tdiv a0_0 (impl_reduced.by_ a0_0 a0_1 t3))), .int .i64 (wrap64 (Int.tdiv a0_1 (impl_reduced.by_ a0_0 a0_1 t3))), .int .i64 (wrap64 (Int.tdiv a0_2 (impl_reduced.by_ a0_0 a0_1 t3))), .int .i64 a0_3]) ?_ 3 _ rfl; (with_reducible repeat (first | refine blk_drewN ?_ _ | refine blk_drew ?_ | refine blk_alloc ?_ _)); exact BKa.out, by repeat (first | (with_reducible exact HB.out) | (with_reducible first | apply pw_below_drewN | apply below_alloc | apply below_drew1) | refine below_set ?_ GEa.out)⟩ ?_
      clear BKr BKa HB
      clear hcr_0 hcr_1 hcr_2 hcr_3 hca_0 hca_1 hca_2 hca_3 hf_
      rintro wE ⟨hr, ha, hbel⟩
      have BKr := Aside0.mk hr
      have BKa := Aside0.mk ha
      have HB := Aside0.mk hbel
      clear hbel hr ha
      have hcr_0 : wE.cell? ⟨gr, 0, none⟩ = some (.int .i64 0) := (blk_cell BKr.out 0).trans rfl
      have hcr_1 : wE.cell? ⟨gr, 1, none⟩ = some (.int .i64 0) := (blk_cell BKr.out 1).trans rfl
      have hcr_2 : wE.cell? ⟨gr, 2, none⟩ = some (.int .i64 0) := (blk_cell BKr.out 2).trans rfl
      have hcr_3 : wE.cell? ⟨gr, 3, none⟩ = some (.int .i64 0) := (blk_cell BKr.out 3).trans rfl
      have hca_0 : wE.cell? ⟨ga, 0, none⟩ = some (.int .i64 (wrap64 (Int.tdiv a0_0 (impl_reduced.by_ a0_0 a0_1 t3)))) := (blk_cell BKa.out 0).trans rfl
      have hca_1 : wE.cell? ⟨ga, 1, none⟩ = some (.int .i64 (wrap64 (Int.tdiv a0_1 (impl_reduced.by_ a0_0 a0_1 t3)))) := (blk_cell BKa.out 1).trans rfl
      have hca_2 : wE.cell? ⟨ga, 2, none⟩ = some (.int .i64 (wrap64 (Int.tdiv a0_2 (impl_reduced.by_ a0_0 a0_1 t3)))) := (blk_cell BKa.out 2).trans rfl
      have hca_3 : wE.cell? ⟨ga, 3, none⟩ = some (.int .i64 (wrap64 (Int.tdiv a0_3 (impl_reduced.by_ a0_0 a0_1 t3)))) := (blk_cell BKa.out 3).trans rfl
      have hf_ : ∀ i, wE.frozen? ⟨ga, i, none⟩ = false := fun i => blk_frozen BKa.out i
      go_wp2
      go_region_with (go_at_call 17; with_reducible refine (impl_IsMatrix.calls k _ _ _ _ t4 _ A4.out).mono ?_; intro e w5 ⟨he, hb⟩; subst he; clear hca_0 hca_1 hca_2 hca_3 hcr_0 hcr_1 hcr_2 hcr_3 hf_; have n0_ := Aside0.mk (blk_below (bkA BKr) hb); have n1_ := Aside0.mk (below_step blA hb); have n2_ := Aside0.mk (blk_below (bkA BKa) hb); clear BKr BKa HB; have BKr := n0_; have HB := n1_; have BKa := n2_; clear n0_ n1_ n2_ hb; have hcr5_0 : w5.cell? ⟨gr, 0, none⟩ = some (.int .i64 0) := (blk_cell BKr.out 0).trans rfl; have hfr5_0 := blk_frozen BKr.out 0; have hca5_0 : w5.cell? ⟨ga, 0, none⟩ = some (.int .i64 (wrap64 (Int.tdiv a0_0 (impl_reduced.by_ a0_0 a0_1 t3)))) := (blk_cell BKa.out 0).trans rfl; have hcr5_1 : w5.cell? ⟨gr, 1, none⟩ = some (.int .i64 0) := (blk_cell BKr.out 1).trans rfl; have hfr5_1 := blk_frozen BKr.out 1; have hca5_1 : w5.cell? ⟨ga, 1, none⟩ = some (.int .i64 (wrap64 (Int.tdiv a0_1 (impl_reduced.by_ a0_0 a0_1 t3)))) := (blk_cell BKa.out 1).trans rfl; have hcr5_2 : w5.cell? ⟨gr, 2, none⟩ = some (.int .i64 0) := (blk_cell BKr.out 2).trans rfl; have hfr5_2 := blk_frozen BKr.out 2; have hca5_2 : w5.cell? ⟨ga, 2, none⟩ = some (.int .i64 (wrap64 (Int.tdiv a0_2 (impl_reduced.by_ a0_0 a0_1 t3)))) := (blk_cell BKa.out 2).trans rfl; have hcr5_3 : w5.cell? ⟨gr, 3, none⟩ = some (.int .i64 0) := (blk_cell BKr.out 3).trans rfl; have hfr5_3 := blk_frozen BKr.out 3; have hca5_3 : w5.cell? ⟨ga, 3, none⟩ = some (.int .i64 (wrap64 (Int.tdiv a0_3 (impl_reduced.by_ a0_0 a0_1 t3)))) := (blk_cell BKa.out 3).trans rfl)
      all_goals go_wp2
      all_goals refine bodyPost_ret (results_ct rfl _ _ gr 25 #[.int .i64 (wrap64 (Int.tdiv a0_0 (impl_reduced.by_ a0_0 a0_1 t3))), .int .i64 (wrap64 (Int.tdiv a0_1 (impl_reduced.by_ a0_0 a0_1 t3))), .int .i64 (wrap64 (Int.tdiv a0_2 (impl_reduced.by_ a0_0 a0_1 t3))), .int .i64 (wrap64 (Int.tdiv a0_3 (impl_reduced.by_ a0_0 a0_1 t3)))] (0, 0) _ rfl (by (with_reducible repeat (first | refine blk_drewN ?_ _ | refine blk_drew ?_ | refine blk_alloc ?_ _)); refine blk_put (cs := #[.int .i64 (wrap64 (Int.tdiv a0_0 (impl_reduced.by_ a0_0 a0_1 t3))), .int .i64 (wrap64 (Int.tdiv a0_1 (impl_reduced.by_ a0_0 a0_1 t3))), .int .i64 (wrap64 (Int.tdiv a0_2 (impl_reduced.by_ a0_0 a0_1 t3))), .int .i64 0]) ?_ 3 _ rfl; (with_reducible repeat (first | refine blk_drewN ?_ _ | refine blk_drew ?_ | refine blk_alloc ?_ _)); refine blk_put (cs := #[.int .i64 (wrap64 (Int.tdiv a0_0 (impl_reduced.by_ a0_0 a0_1 t3))), .int .i64 (wrap64 (Int.tdiv a0_1 (impl_reduced.by_ a0_0 a0_1 t3))), .int .i64 0, .int .i64 0]) ?_ 2 _ rfl; (with_reducible repeat (first | refine blk_drewN ?_ _ | refine blk_drew ?_ | refine blk_alloc ?_ _)); refine blk_put (cs := #[.int .i64 (wrap64 (Int.tdiv a0_0 (impl_reduced.by_ a0_0 a0_1 t3))), .int .i64 0, .int .i64 0, .int .i64 0]) ?_ 1 _ rfl; (with_reducible repeat (first | refine blk_drewN ?_ _ | refine blk_drew ?_ | refine blk_alloc ?_ _)); refine blk_put (cs := #[.int .i64 0, .int .i64 0, .int .i64 0, .int .i64 0]) ?_ 0 _ rfl; (with_reducible repeat (first | refine blk_drewN ?_ _ | refine blk_drew ?_ | refine blk_alloc ?_ _)); exact BKr.out) Try.underlying25 rfl (by kernel_rfl)) rfl ?_
      all_goals exact ⟨by first | rfl | (simp <;> rfl), by repeat (first | (with_reducible exact HB.out) | (with_reducible first | apply pw_below_drewN | apply below_alloc | apply below_drew1) | refine below_set ?_ (Aside0.out (by assumption)))⟩
end Go.Proofs.Ytmhajnfdbjnegaa.PAll
