-- turned for this claim out of the kit's print: the same functions, packed anew
import Derived.Test.YtmhajnfdbjnegaaQx
import Derived.Test.YtmhajnfdbjnegaaQimplreduced
import Derived.Test.YtmhajnfdbjnegaaQspecl04Reduce
namespace Go.Proofs.Ytmhajnfdbjnegaa.PAll
open Go.RowKit Go.Proofs.YtmhajnfdbjnegaaW.PrintWords Go.Proofs.YtmhajnfdbjnegaaW.PrintLast Go.Proofs.YtmhajnfdbjnegaaW.PrintMore
attribute [local go_sem] Go.Proofs.Ytmhajnfdbjnegaa.Aux.setCell_drewN Go.Proofs.Ytmhajnfdbjnegaa.Aux.isSome_setCell max2_int min2_int max_two min_two max_three min_three max_four min_four   -- for this text's walks alone
set_option linter.unusedVariables false
set_option linter.unusedSimpArgs false
/-! ### spec_l04Times: function 71 -/
def spec_l04Times.f (k : Nat) (a0_0 a0_1 a0_2 a0_3 a1_0 a1_1 a1_2 a1_3 : Int) : Option (Int × Int × Int × Int × Bool) := spec_l04Reduce.f k (wrap64 (wrap64 (a0_0 * a1_0) + wrap64 (a0_1 * a1_2))) (wrap64 (wrap64 (a0_0 * a1_1) + wrap64 (a0_1 * a1_3))) (wrap64 (wrap64 (a0_2 * a1_0) + wrap64 (a0_3 * a1_2))) (wrap64 (wrap64 (a0_2 * a1_1) + wrap64 (a0_3 * a1_3)))
theorem spec_l04Times.mono : ∀ a0_0 a0_1 a0_2 a0_3 a1_0 a1_1 a1_2 a1_3 k, LeO (spec_l04Times.f k a0_0 a0_1 a0_2 a0_3 a1_0 a1_1 a1_2 a1_3) (spec_l04Times.f (k + 1) a0_0 a0_1 a0_2 a0_3 a1_0 a1_1 a1_2 a1_3) := fun _ _ _ _ _ _ _ _ k => spec_l04Reduce.mono _ _ _ _ k
set_option maxHeartbeats 8000000 in
set_option maxRecDepth 100000 in
theorem spec_l04Times.calls (k : Nat) (a0_0 a0_1 a0_2 a0_3 a1_0 a1_1 a1_2 a1_3 r1 r2 r3 r4 : Int) (r5 : Bool) (w : World) (h : spec_l04Times.f k a0_0 a0_1 a0_2 a0_3 a1_0 a1_1 a1_2 a1_3 = some (r1, r2, r3, r4, r5)) :
    Calls Try.prog 71 #[.agg #[.int .i64 a0_0, .int .i64 a0_1, .int .i64 a0_2, .int .i64 a0_3], .agg #[.int .i64 a1_0, .int .i64 a1_1, .int .i64 a1_2, .int .i64 a1_3]] w fun e w' => e = .returned (.tuple #[.agg #[.int .i64 r1, .int .i64 r2, .int .i64 r3, .int .i64 r4], .bool r5]) ∧ Below w.heap.size w w' := by
  unfold spec_l04Times.f at h
  have H := Aside0.mk h
  clear h
  have HB := Aside0.mk (Below.refl w.heap.size w)
  go_enter Try.func71, Try.ntmps71
  go_wp2_with (first | ((with_reducible refine gate_dst (N := 2) rfl ?_); refine box_event ?hg (N := 2) ?hd (cs := #[.int .i64 a0_0, .int .i64 a0_1, .int .i64 a0_2, .int .i64 a0_3]) (t := 25) ?hr ?_; (case hd => rfl); (case hg => rfl); (case hr => first | (go_simp; done) | (go_simp; rfl)); intro ga hg wa hbox hb; have n0_ := Aside0.mk (below_step blA hb); have n1_ := Aside0.mk hbox; have n2_ := Aside0.mk (szA hg blA); clear HB; have HB := n0_; have BKa := n1_; have GEa := n2_; clear n0_ n1_ n2_; clear hb hbox hg) | ((with_reducible refine gate_dst (N := 3) rfl ?_); refine box_event ?hg (N := 3) ?hd (cs := #[.int .i64 a1_0, .int .i64 a1_1, .int .i64 a1_2, .int .i64 a1_3]) (t := 25) ?hr ?_; (case hd => rfl); (case hg => rfl); (case hr => first | (go_simp; done) | (go_simp; rfl)); intro gb hg wb hbox hb; have n0_ := Aside0.mk (blk_below (bkA BKa) hb); have n1_ := Aside0.mk (below_step blA hb); have n2_ := Aside0.mk hbox; have n3_ := Aside0.mk (szA hg blA); clear BKa; clear HB; have BKa := n0_; have HB := n1_; have BKb := n2_; have GEb := n3_; clear n0_ n1_ n2_ n3_; clear hb hbox hg) | ((with_reducible refine gate_dst (N := 4) rfl ?_); refine box_event ?hg (N := 4) ?hd (cs := #[.int .i64 0, .int .i64 0, .int .i64 0, .int .i64 0]) (t := 25) ?hr ?_; (case hd => rfl); (case hg => rfl); (case hr => first | (go_simp; done) | (go_simp; rfl)); intro gr hg wr hbox hb; have n0_ := Aside0.mk (blk_below (bkA BKa) hb); have n1_ := Aside0.mk (blk_below (bkA BKb) hb); have n2_ := Aside0.mk (below_step blA hb); have n3_ := Aside0.mk hbox; have n4_ := Aside0.mk (szA hg blA); clear BKa; clear BKb; clear HB; have BKa := n0_; have BKb := n1_; have HB := n2_; have BKr := n3_; have GEr := n4_; clear n0_ n1_ n2_ n3_ n4_; clear hb hbox hg) | ((with_reducible refine gate_dst (N := 6) rfl ?_); refine box_event ?hg (N := 6) ?hd (cs := #[.int .i64 0, .int .i64 0, .int .i64 0, .int .i64 0]) (t := 25) ?hr ?_; (case hd => rfl); (case hg => rfl); (case hr => first | (go_simp; done) | (go_simp; rfl)); intro go hg wo hbox hb; have n0_ := Aside0.mk (blk_below (bkA BKa) hb); have n1_ := Aside0.mk (blk_below (bkA BKb) hb); have n2_ := Aside0.mk (blk_below (bkA BKr) hb); have n3_ := Aside0.mk (below_step blA hb); have n4_ := Aside0.mk hbox; have n5_ := Aside0.mk (szA hg blA); have n6_ := Aside0.mk (neA hg (bkA BKa)); have n7_ := Aside0.mk (neA hg (bkA BKb)); have n8_ := Aside0.mk (neA hg (bkA BKr)); clear BKa; clear BKb; clear BKr; clear HB; have BKa := n0_; have BKb := n1_; have BKr := n2_; have HB := n3_; have BKo := n4_; have GEo := n5_; have NEa_o := n6_; have NEb_o := n7_; have NEr_o := n8_; clear n0_ n1_ n2_ n3_ n4_ n5_ n6_ n7_ n8_; clear hb hbox hg; have hco_0 : wo.cell? ⟨go, 0, none⟩ = some (.int .i64 0) := (blk_cell BKo.out 0).trans rfl; have hfo_0 := blk_frozen BKo.out 0; have hco_1 : wo.cell? ⟨go, 1, none⟩ = some (.int .i64 0) := (blk_cell BKo.out 1).trans rfl; have hfo_1 := blk_frozen BKo.out 1; have hco_2 : wo.cell? ⟨go, 2, none⟩ = some (.int .i64 0) := (blk_cell BKo.out 2).trans rfl; have hfo_2 := blk_frozen BKo.out 2; have hco_3 : wo.cell? ⟨go, 3, none⟩ = some (.int .i64 0) := (blk_cell BKo.out 3).trans rfl; have hfo_3 := blk_frozen BKo.out 3))
  refine name_world (fun w' => w'.heap[ga]? = some (.cells #[.int .i64 a0_0, .int .i64 a0_1, .int .i64 a0_2, .int .i64 a0_3] 25 (0, 0)) ∧ w'.heap[gb]? = some (.cells #[.int .i64 a1_0, .int .i64 a1_1, .int .i64 a1_2, .int .i64 a1_3] 25 (0, 0)) ∧ w'.heap[gr]? = some (.cells #[.int .i64 0, .int .i64 0, .int .i64 0, .int .i64 0] 25 (0, 0)) ∧ w'.heap[go]? = some (.cells #[.int .i64 0, .int .i64 0, .int .i64 0, .int .i64 0] 25 (0, 0)) ∧ Below w.heap.size w w') ⟨by repeat (first | (with_reducible exact BKa.out) | (with_reducible first | refine blk_drewN ?_ _ | refine blk_drew ?_ | refine blk_alloc ?_ _) | refine blk_far ?_ NEa_o.out _), by repeat (first | (with_reducible exact BKb.out) | (with_reducible first | refine blk_drewN ?_ _ | refine blk_drew ?_ | refine blk_alloc ?_ _) | refine blk_far ?_ NEb_o.out _), by repeat (first | (with_reducible exact BKr.out) | (with_reducible first | refine blk_drewN ?_ _ | refine blk_drew ?_ | refine blk_alloc ?_ _) | refine blk_far ?_ NEr_o.out _), by (with_reducible repeat (first | refine blk_drewN ?_ _ | refine blk_drew ?_ | refine blk_alloc ?_ _)); refine blk_put (cs := #[.int .i64 0, .int .i64 0, .int .i64 0, .int .i64 0]) ?_ 3 _ rfl; (with_reducible repeat (first | refine blk_drewN ?_ _ | refine blk_drew ?_ | refine blk_alloc ?_ _)); refine blk_put (cs := #[.int .i64 0, .int .i64 0, .int .i64 0, .int .i64 0]) ?_ 2 _ rfl; (with_reducible repeat (first | refine blk_drewN ?_ _ | refine blk_drew ?_ | refine blk_alloc ?_ _)); refine blk_put (cs := #[.int .i64 0, .int .i64 0, .int .i64 0, .int .i64 0]) ?_ 1 _ rfl; (with_reducible repeat (first | refine blk_drewN ?_ _ | refine blk_drew ?_ | refine blk_alloc ?_ _)); refine blk_put (cs := #[.int .i64 0, .int .i64 0, .int .i64 0, .int .i64 0]) ?_ 0 _ rfl; (with_reducible repeat (first | refine blk_drewN ?_ _ | refine blk_drew ?_ | refine blk_alloc ?_ _)); exact BKo.out, by repeat (first | (with_reducible exact HB.out) | (with_reducible first | apply pw_below_drewN | apply below_alloc | apply below_drew1) | refine below_set ?_ GEo.out)⟩ ?_
  clear BKa BKb BKr BKo HB
  clear hco_0 hfo_0 hco_1 hfo_1 hco_2 hfo_2 hco_3 hfo_3
  rintro wA ⟨ha, hb, hr, ho, hbel⟩
  have BKa := Aside0.mk ha
  have BKb := Aside0.mk hb
  have BKr := Aside0.mk hr
  have BKo := Aside0.mk ho
  have HB := Aside0.mk hbel
  clear hbel ha hb hr ho
  have hca_0 : wA.cell? ⟨ga, 0, none⟩ = some (.int .i64 a0_0) := (blk_cell BKa.out 0).trans rfl
  have hca_1 : wA.cell? ⟨ga, 1, none⟩ = some (.int .i64 a0_1) := (blk_cell BKa.out 1).trans rfl
  have hca_2 : wA.cell? ⟨ga, 2, none⟩ = some (.int .i64 a0_2) := (blk_cell BKa.out 2).trans rfl
  have hca_3 : wA.cell? ⟨ga, 3, none⟩ = some (.int .i64 a0_3) := (blk_cell BKa.out 3).trans rfl
  have hcb_0 : wA.cell? ⟨gb, 0, none⟩ = some (.int .i64 a1_0) := (blk_cell BKb.out 0).trans rfl
  have hcb_1 : wA.cell? ⟨gb, 1, none⟩ = some (.int .i64 a1_1) := (blk_cell BKb.out 1).trans rfl
  have hcb_2 : wA.cell? ⟨gb, 2, none⟩ = some (.int .i64 a1_2) := (blk_cell BKb.out 2).trans rfl
  have hcb_3 : wA.cell? ⟨gb, 3, none⟩ = some (.int .i64 a1_3) := (blk_cell BKb.out 3).trans rfl
  have hcr_0 : wA.cell? ⟨gr, 0, none⟩ = some (.int .i64 0) := (blk_cell BKr.out 0).trans rfl
  have hcr_1 : wA.cell? ⟨gr, 1, none⟩ = some (.int .i64 0) := (blk_cell BKr.out 1).trans rfl
  have hcr_2 : wA.cell? ⟨gr, 2, none⟩ = some (.int .i64 0) := (blk_cell BKr.out 2).trans rfl
  have hcr_3 : wA.cell? ⟨gr, 3, none⟩ = some (.int .i64 0) := (blk_cell BKr.out 3).trans rfl
  have hco_0 : wA.cell? ⟨go, 0, none⟩ = some (.int .i64 0) := (blk_cell BKo.out 0).trans rfl
  have hco_1 : wA.cell? ⟨go, 1, none⟩ = some (.int .i64 0) := (blk_cell BKo.out 1).trans rfl
  have hco_2 : wA.cell? ⟨go, 2, none⟩ = some (.int .i64 0) := (blk_cell BKo.out 2).trans rfl
  have hco_3 : wA.cell? ⟨go, 3, none⟩ = some (.int .i64 0) := (blk_cell BKo.out 3).trans rfl
  have hf_ : ∀ i, wA.frozen? ⟨go, i, none⟩ = false := fun i => blk_frozen BKo.out i
  refine wp_loop_rounds 3 ?_
  rw [rounds_succ]; go_wp2
  refine wp_loop_rounds 3 ?_
  rw [rounds_succ]; go_wp2
  refine wp_region_still_tail 23 (by kernel_rfl) (by kernel_rfl) ?_
  change wpStill _ _ wA.drew (fun a' => wpList _ _ _ _ a' wA.drew) _ _
  simp only [List.take_succ_cons, List.take_zero, List.drop_succ_cons, List.drop_zero]
  repeat still_step
  refine wpStill_nil ?_
  go_wp2
  rw [rounds_succ]; go_wp2
  refine name_world (fun w' => w'.heap[ga]? = some (.cells #[.int .i64 a0_0, .int .i64 a0_1, .int .i64 a0_2, .int .i64 a0_3] 25 (0, 0)) ∧ w'.heap[gb]? = some (.cells #[.int .i64 a1_0, .int .i64 a1_1, .int .i64 a1_2, .int .i64 a1_3] 25 (0, 0)) ∧ w'.heap[gr]? = some (.cells #[.int .i64 0, .int .i64 0, .int .i64 0, .int .i64 0] 25 (0, 0)) ∧ w'.heap[go]? = some (.cells #[.int .i64 (wrap64 (wrap64 (a0_0 * a1_0) + wrap64 (a0_1 * a1_2))), .int .i64 0, .int .i64 0, .int .i64 0] 25 (0, 0)) ∧ Below w.heap.size w w') ⟨by repeat (first | (with_reducible exact BKa.out) | (with_reducible first | refine blk_drewN ?_ _ | refine blk_drew ?_ | refine blk_alloc ?_ _) | refine blk_far ?_ NEa_o.out _), by repeat (first | (with_reducible exact BKb.out) | (with_reducible first | refine blk_drewN ?_ _ | refine blk_drew ?_ | refine blk_alloc ?_ _) | refine blk_far ?_ NEb_o.out _), by repeat (first | (with_reducible exact BKr.out) | (with_reducible first | refine blk_drewN ?_ _ | refine blk_drew ?_ | refine blk_alloc ?_ _) | refine blk_far ?_ NEr_o.out _), by (with_reducible repeat (first | refine blk_drewN ?_ _ | refine blk_drew ?_ | refine blk_alloc ?_ _)); refine blk_put (cs := #[.int .i64 0, .int .i64 0, .int .i64 0, .int .i64 0]) ?_ 0 _ rfl; (with_reducible repeat (first | refine blk_drewN ?_ _ | refine blk_drew ?_ | refine blk_alloc ?_ _)); exact BKo.out, by repeat (first | (with_reducible exact HB.out) | (with_reducible first | apply pw_below_drewN | apply below_alloc | apply below_drew1) | refine below_set ?_ GEo.out)⟩ ?_
  clear BKa BKb BKr BKo HB
  clear hca_0 hca_1 hca_2 hca_3 hcb_0 hcb_1 hcb_2 hcb_3 hcr_0 hcr_1 hcr_2 hcr_3 hco_0 hco_1 hco_2 hco_3 hf_
  rintro wB ⟨ha, hb, hr, ho, hbel⟩
  have BKa := Aside0.mk ha
  have BKb := Aside0.mk hb
  have BKr := Aside0.mk hr
  have BKo := Aside0.mk ho
  have HB := Aside0.mk hbel
  clear hbel ha hb hr ho
  have hca_0 : wB.cell? ⟨ga, 0, none⟩ = some (.int .i64 a0_0) := (blk_cell BKa.out 0).trans rfl
  have hca_1 : wB.cell? ⟨ga, 1, none⟩ = some (.int .i64 a0_1) := (blk_cell BKa.out 1).trans rfl
  have hca_2 : wB.cell? ⟨ga, 2, none⟩ = some (.int .i64 a0_2) := (blk_cell BKa.out 2).trans rfl
  have hca_3 : wB.cell? ⟨ga, 3, none⟩ = some (.int .i64 a0_3) := (blk_cell BKa.out 3).trans rfl
  have hcb_0 : wB.cell? ⟨gb, 0, none⟩ = some (.int .i64 a1_0) := (blk_cell BKb.out 0).trans rfl
  have hcb_1 : wB.cell? ⟨gb, 1, none⟩ = some (.int .i64 a1_1) := (blk_cell BKb.out 1).trans rfl
  have hcb_2 : wB.cell? ⟨gb, 2, none⟩ = some (.int .i64 a1_2) := (blk_cell BKb.out 2).trans rfl
  have hcb_3 : wB.cell? ⟨gb, 3, none⟩ = some (.int .i64 a1_3) := (blk_cell BKb.out 3).trans rfl
  have hcr_0 : wB.cell? ⟨gr, 0, none⟩ = some (.int .i64 0) := (blk_cell BKr.out 0).trans rfl
  have hcr_1 : wB.cell? ⟨gr, 1, none⟩ = some (.int .i64 0) := (blk_cell BKr.out 1).trans rfl
  have hcr_2 : wB.cell? ⟨gr, 2, none⟩ = some (.int .i64 0) := (blk_cell BKr.out 2).trans rfl
  have hcr_3 : wB.cell? ⟨gr, 3, none⟩ = some (.int .i64 0) := (blk_cell BKr.out 3).trans rfl
  have hco_0 : wB.cell? ⟨go, 0, none⟩ = some (.int .i64 (wrap64 (wrap64 (a0_0 * a1_0) + wrap64 (a0_1 * a1_2)))) := (blk_cell BKo.out 0).trans rfl
  have hco_1 : wB.cell? ⟨go, 1, none⟩ = some (.int .i64 0) := (blk_cell BKo.out 1).trans rfl
  have hco_2 : wB.cell? ⟨go, 2, none⟩ = some (.int .i64 0) := (blk_cell BKo.out 2).trans rfl
  have hco_3 : wB.cell? ⟨go, 3, none⟩ = some (.int .i64 0) := (blk_cell BKo.out 3).trans rfl
  have hf_ : ∀ i, wB.frozen? ⟨go, i, none⟩ = false := fun i => blk_frozen BKo.out i
  refine wp_region_still_tail 23 (by kernel_rfl) (by kernel_rfl) ?_
  change wpStill _ _ wB.drew (fun a' => wpList _ _ _ _ a' wB.drew) _ _
  simp only [List.take_succ_cons, List.take_zero, List.drop_succ_cons, List.drop_zero]
  repeat still_step
  refine wpStill_nil ?_
  go_wp2
  rw [rounds_succ]; go_wp2
  rw [rounds_succ]; go_wp2
  refine wp_loop_rounds 3 ?_
  rw [rounds_succ]; go_wp2
  refine name_world (fun w' => w'.heap[ga]? = some (.cells #[.int .i64 a0_0, .int .i64 a0_1, .int .i64 a0_2, .int .i64 a0_3] 25 (0, 0)) ∧ w'.heap[gb]? = some (.cells #[.int .i64 a1_0, .int .i64 a1_1, .int .i64 a1_2, .int .i64 a1_3] 25 (0, 0)) ∧ w'.heap[gr]? = some (.cells #[.int .i64 0, .int .i64 0, .int .i64 0, .int .i64 0] 25 (0, 0)) ∧ w'.heap[go]? = some (.cells #[.int .i64 (wrap64 (wrap64 (a0_0 * a1_0) + wrap64 (a0_1 * a1_2))), .int .i64 (wrap64 (wrap64 (a0_0 * a1_1) + wrap64 (a0_1 * a1_3))), .int .i64 0, .int .i64 0] 25 (0, 0)) ∧ Below w.heap.size w w') ⟨by repeat (first | (with_reducible exact BKa.out) | (with_reducible first | refine blk_drewN ?_ _ | refine blk_drew ?_ | refine blk_alloc ?_ _) | refine blk_far ?_ NEa_o.out _), by repeat (first | (with_reducible exact BKb.out) | (with_reducible first | refine blk_drewN ?_ _ | refine blk_drew ?_ | refine blk_alloc ?_ _) | refine blk_far ?_ NEb_o.out _), by repeat (first | (with_reducible exact BKr.out) | (with_reducible first | refine blk_drewN ?_ _ | refine blk_drew ?_ | refine blk_alloc ?_ _) | refine blk_far ?_ NEr_o.out _), by (with_reducible repeat (first | refine blk_drewN ?_ _ | refine blk_drew ?_ | refine blk_alloc ?_ _)); refine blk_put (cs := #[.int .i64 (wrap64 (wrap64 (a0_0 * a1_0) + wrap64 (a0_1 * a1_2))), .int .i64 0, .int .i64 0, .int .i64 0]) ?_ 1 _ rfl; (with_reducible repeat (first | refine blk_drewN ?_ _ | refine blk_drew ?_ | refine blk_alloc ?_ _)); exact BKo.out, by repeat (first | (with_reducible exact HB.out) | (with_reducible first | apply pw_below_drewN | apply below_alloc | apply below_drew1) | refine below_set ?_ GEo.out)⟩ ?_
  clear BKa BKb BKr BKo HB
  clear hca_0 hca_1 hca_2 hca_3 hcb_0 hcb_1 hcb_2 hcb_3 hcr_0 hcr_1 hcr_2 hcr_3 hco_0 hco_1 hco_2 hco_3 hf_
  rintro wC ⟨ha, hb, hr, ho, hbel⟩
  have BKa := Aside0.mk ha
  have BKb := Aside0.mk hb
  have BKr := Aside0.mk hr
  have BKo := Aside0.mk ho
  have HB := Aside0.mk hbel
  clear hbel ha hb hr ho
  have hca_0 : wC.cell? ⟨ga, 0, none⟩ = some (.int .i64 a0_0) := (blk_cell BKa.out 0).trans rfl
  have hca_1 : wC.cell? ⟨ga, 1, none⟩ = some (.int .i64 a0_1) := (blk_cell BKa.out 1).trans rfl
  have hca_2 : wC.cell? ⟨ga, 2, none⟩ = some (.int .i64 a0_2) := (blk_cell BKa.out 2).trans rfl
  have hca_3 : wC.cell? ⟨ga, 3, none⟩ = some (.int .i64 a0_3) := (blk_cell BKa.out 3).trans rfl
  have hcb_0 : wC.cell? ⟨gb, 0, none⟩ = some (.int .i64 a1_0) := (blk_cell BKb.out 0).trans rfl
  have hcb_1 : wC.cell? ⟨gb, 1, none⟩ = some (.int .i64 a1_1) := (blk_cell BKb.out 1).trans rfl
  have hcb_2 : wC.cell? ⟨gb, 2, none⟩ = some (.int .i64 a1_2) := (blk_cell BKb.out 2).trans rfl
  have hcb_3 : wC.cell? ⟨gb, 3, none⟩ = some (.int .i64 a1_3) := (blk_cell BKb.out 3).trans rfl
  have hcr_0 : wC.cell? ⟨gr, 0, none⟩ = some (.int .i64 0) := (blk_cell BKr.out 0).trans rfl
  have hcr_1 : wC.cell? ⟨gr, 1, none⟩ = some (.int .i64 0) := (blk_cell BKr.out 1).trans rfl
  have hcr_2 : wC.cell? ⟨gr, 2, none⟩ = some (.int .i64 0) := (blk_cell BKr.out 2).trans rfl
  have hcr_3 : wC.cell? ⟨gr, 3, none⟩ = some (.int .i64 0) := (blk_cell BKr.out 3).trans rfl
  have hco_0 : wC.cell? ⟨go, 0, none⟩ = some (.int .i64 (wrap64 (wrap64 (a0_0 * a1_0) + wrap64 (a0_1 * a1_2)))) := (blk_cell BKo.out 0).trans rfl
  have hco_1 : wC.cell? ⟨go, 1, none⟩ = some (.int .i64 (wrap64 (wrap64 (a0_0 * a1_1) + wrap64 (a0_1 * a1_3)))) := (blk_cell BKo.out 1).trans rfl
  have hco_2 : wC.cell? ⟨go, 2, none⟩ = some (.int .i64 0) := (blk_cell BKo.out 2).trans rfl
  have hco_3 : wC.cell? ⟨go, 3, none⟩ = some (.int .i64 0) := (blk_cell BKo.out 3).trans rfl
  have hf_ : ∀ i, wC.frozen? ⟨go, i, none⟩ = false := fun i => blk_frozen BKo.out i
  refine wp_region_still_tail 23 (by kernel_rfl) (by kernel_rfl) ?_
  change wpStill _ _ wC.drew (fun a' => wpList _ _ _ _ a' wC.drew) _ _
  simp only [List.take_succ_cons, List.take_zero, List.drop_succ_cons, List.drop_zero]
  repeat still_step
  refine wpStill_nil ?_
  go_wp2
  rw [rounds_succ]; go_wp2
  refine name_world (fun w' => w'.heap[ga]? = some (.cells #[.int .i64 a0_0, .int .i64 a0_1, .int .i64 a0_2, .int .i64 a0_3] 25 (0, 0)) ∧ w'.heap[gb]? = some (.cells #[.int .i64 a1_0, .int .i64 a1_1, .int .i64 a1_2, .int .i64 a1_3] 25 (0, 0)) ∧ w'.heap[gr]? = some (.cells #[.int .i64 0, .int .i64 0, .int .i64 0, .int .i64 0] 25 (0, 0)) ∧ w'.heap[go]? = some (.cells #[.int .i64 (wrap64 (wrap64 (a0_0 * a1_0) + wrap64 (a0_1 * a1_2))), .int .i64 (wrap64 (wrap64 (a0_0 * a1_1) + wrap64 (a0_1 * a1_3))), .int .i64 (wrap64 (wrap64 (a0_2 * a1_0) + wrap64 (a0_3 * a1_2))), .int .i64 0] 25 (0, 0)) ∧ Below w.heap.size w w') ⟨by repeat (first | (with_reducible exact BKa.out) | (with_reducible first | refine blk_drewN ?_ _ | refine blk_drew ?_ | refine blk_alloc ?_ _) | refine blk_far ?_ NEa_o.out _), by repeat (first | (with_reducible exact BKb.out) | (with_reducible first | refine blk_drewN ?_ _ | refine blk_drew ?_ | refine blk_alloc ?_ _) | refine blk_far ?_ NEb_o.out _), by repeat (first | (with_reducible exact BKr.out) | (with_reducible first | refine blk_drewN ?_ _ | refine blk_drew ?_ | refine blk_alloc ?_ _) | refine blk_far ?_ NEr_o.out _), by (with_reducible repeat (first | refine blk_drewN ?_ _ | refine blk_drew ?_ | refine blk_alloc ?_ _)); refine blk_put (cs := #[.int .i64 (wrap64 (wrap64 (a0_0 * a1_0) + wrap64 (a0_1 * a1_2))), .int .i64 (wrap64 (wrap64 (a0_0 * a1_1) + wrap64 (a0_1 * a1_3))), .int .i64 0, .int .i64 0]) ?_ 2 _ rfl; (with_reducible repeat (first | refine blk_drewN ?_ _ | refine blk_drew ?_ | refine blk_alloc ?_ _)); exact BKo.out, by repeat (first | (with_reducible exact HB.out) | (with_reducible first | apply pw_below_drewN | apply below_alloc | apply below_drew1) | refine below_set ?_ GEo.out)⟩ ?_
  clear BKa BKb BKr BKo HB
  clear hca_0 hca_1 hca_2 hca_3 hcb_0 hcb_1 hcb_2 hcb_3 hcr_0 hcr_1 hcr_2 hcr_3 hco_0 hco_1 hco_2 hco_3 hf_
  rintro wD ⟨ha, hb, hr, ho, hbel⟩
  have BKa := Aside0.mk ha
  have BKb := Aside0.mk hb
  have BKr := Aside0.mk hr
  have BKo := Aside0.mk ho
  have HB := Aside0.mk hbel
  clear hbel ha hb hr ho
  have hca_0 : wD.cell? ⟨ga, 0, none⟩ = some (.int .i64 a0_0) := (blk_cell BKa.out 0).trans rfl
  have hca_1 : wD.cell? ⟨ga, 1, none⟩ = some (.int .i64 a0_1) := (blk_cell BKa.out 1).trans rfl
  have hca_2 : wD.cell? ⟨ga, 2, none⟩ = some (.int .i64 a0_2) := (blk_cell BKa.out 2).trans rfl
  have hca_3 : wD.cell? ⟨ga, 3, none⟩ = some (.int .i64 a0_3) := (blk_cell BKa.out 3).trans rfl
  have hcb_0 : wD.cell? ⟨gb, 0, none⟩ = some (.int .i64 a1_0) := (blk_cell BKb.out 0).trans rfl
  have hcb_1 : wD.cell? ⟨gb, 1, none⟩ = some (.int .i64 a1_1) := (blk_cell BKb.out 1).trans rfl
  have hcb_2 : wD.cell? ⟨gb, 2, none⟩ = some (.int .i64 a1_2) := (blk_cell BKb.out 2).trans rfl
  have hcb_3 : wD.cell? ⟨gb, 3, none⟩ = some (.int .i64 a1_3) := (blk_cell BKb.out 3).trans rfl
  have hcr_0 : wD.cell? ⟨gr, 0, none⟩ = some (.int .i64 0) := (blk_cell BKr.out 0).trans rfl
  have hcr_1 : wD.cell? ⟨gr, 1, none⟩ = some (.int .i64 0) := (blk_cell BKr.out 1).trans rfl
  have hcr_2 : wD.cell? ⟨gr, 2, none⟩ = some (.int .i64 0) := (blk_cell BKr.out 2).trans rfl
  have hcr_3 : wD.cell? ⟨gr, 3, none⟩ = some (.int .i64 0) := (blk_cell BKr.out 3).trans rfl
  have hco_0 : wD.cell? ⟨go, 0, none⟩ = some (.int .i64 (wrap64 (wrap64 (a0_0 * a1_0) + wrap64 (a0_1 * a1_2)))) := (blk_cell BKo.out 0).trans rfl
  have hco_1 : wD.cell? ⟨go, 1, none⟩ = some (.int .i64 (wrap64 (wrap64 (a0_0 * a1_1) + wrap64 (a0_1 * a1_3)))) := (blk_cell BKo.out 1).trans rfl
  have hco_2 : wD.cell? ⟨go, 2, none⟩ = some (.int .i64 (wrap64 (wrap64 (a0_2 * a1_0) + wrap64 (a0_3 * a1_2)))) := (blk_cell BKo.out 2).trans rfl
  have hco_3 : wD.cell? ⟨go, 3, none⟩ = some (.int .i64 0) := (blk_cell BKo.out 3).trans rfl
  have hf_ : ∀ i, wD.frozen? ⟨go, i, none⟩ = false := fun i => blk_frozen BKo.out i
  refine wp_region_still_tail 23 (by kernel_rfl) (by kernel_rfl) ?_
  change wpStill _ _ wD.drew (fun a' => wpList _ _ _ _ a' wD.drew) _ _
  simp only [List.take_succ_cons, List.take_zero, List.drop_succ_cons, List.drop_zero]
  repeat still_step
  refine wpStill_nil ?_
  go_wp2
  rw [rounds_succ]; go_wp2
  rw [rounds_succ]
  refine name_world (fun w' => w'.heap[ga]? = some (.cells #[.int .i64 a0_0, .int .i64 a0_1, .int .i64 a0_2, .int .i64 a0_3] 25 (0, 0)) ∧ w'.heap[gb]? = some (.cells #[.int .i64 a1_0, .int .i64 a1_1, .int .i64 a1_2, .int .i64 a1_3] 25 (0, 0)) ∧ w'.heap[gr]? = some (.cells #[.int .i64 0, .int .i64 0, .int .i64 0, .int .i64 0] 25 (0, 0)) ∧ w'.heap[go]? = some (.cells #[.int .i64 (wrap64 (wrap64 (a0_0 * a1_0) + wrap64 (a0_1 * a1_2))), .int .i64 (wrap64 (wrap64 (a0_0 * a1_1) + wrap64 (a0_1 * a1_3))), .int .i64 (wrap64 (wrap64 (a0_2 * a1_0) + wrap64 (a0_3 * a1_2))), .int .i64 (wrap64 (wrap64 (a0_2 * a1_1) + wrap64 (a0_3 * a1_3)))] 25 (0, 0)) ∧ Below w.heap.size w w') ⟨by repeat (first | (with_reducible exact BKa.out) | (with_reducible first | refine blk_drewN ?_ _ | refine blk_drew ?_ | refine blk_alloc ?_ _) | refine blk_far ?_ NEa_o.out _), by repeat (first | (with_reducible exact BKb.out) | (with_reducible first | refine blk_drewN ?_ _ | refine blk_drew ?_ | refine blk_alloc ?_ _) | refine blk_far ?_ NEb_o.out _), by repeat (first | (with_reducible exact BKr.out) | (with_reducible first | refine blk_drewN ?_ _ | refine blk_drew ?_ | refine blk_alloc ?_ _) | refine blk_far ?_ NEr_o.out _), by (with_reducible repeat (first | refine blk_drewN ?_ _ | refine blk_drew ?_ | refine blk_alloc ?_ _)); refine blk_put (cs := #[.int .i64 (wrap64 (wrap64 (a0_0 * a1_0) + wrap64 (a0_1 * a1_2))), .int .i64 (wrap64 (wrap64 (a0_0 * a1_1) + wrap64 (a0_1 * a1_3))), .int .i64 (wrap64 (wrap64 (a0_2 * a1_0) + wrap64 (a0_3 * a1_2))), .int .i64 0]) ?_ 3 _ rfl; (with_reducible repeat (first | refine blk_drewN ?_ _ | refine blk_drew ?_ | refine blk_alloc ?_ _)); exact BKo.out, by repeat (first | (with_reducible exact HB.out) | (with_reducible first | apply pw_below_drewN | apply below_alloc | apply below_drew1) | refine below_set ?_ GEo.out)⟩ ?_
  clear BKa BKb BKr BKo HB
  clear hca_0 hca_1 hca_2 hca_3 hcb_0 hcb_1 hcb_2 hcb_3 hcr_0 hcr_1 hcr_2 hcr_3 hco_0 hco_1 hco_2 hco_3 hf_
  rintro wE ⟨ha, hb, hr, ho, hbel⟩
  have BKa := Aside0.mk ha
  have BKb := Aside0.mk hb
  have BKr := Aside0.mk hr
  have BKo := Aside0.mk ho
  have HB := Aside0.mk hbel
  clear hbel ha hb hr ho
  have hca_0 : wE.cell? ⟨ga, 0, none⟩ = some (.int .i64 a0_0) := (blk_cell BKa.out 0).trans rfl
  have hca_1 : wE.cell? ⟨ga, 1, none⟩ = some (.int .i64 a0_1) := (blk_cell BKa.out 1).trans rfl
  have hca_2 : wE.cell? ⟨ga, 2, none⟩ = some (.int .i64 a0_2) := (blk_cell BKa.out 2).trans rfl
  have hca_3 : wE.cell? ⟨ga, 3, none⟩ = some (.int .i64 a0_3) := (blk_cell BKa.out 3).trans rfl
  have hcb_0 : wE.cell? ⟨gb, 0, none⟩ = some (.int .i64 a1_0) := (blk_cell BKb.out 0).trans rfl
  have hcb_1 : wE.cell? ⟨gb, 1, none⟩ = some (.int .i64 a1_1) := (blk_cell BKb.out 1).trans rfl
  have hcb_2 : wE.cell? ⟨gb, 2, none⟩ = some (.int .i64 a1_2) := (blk_cell BKb.out 2).trans rfl
  have hcb_3 : wE.cell? ⟨gb, 3, none⟩ = some (.int .i64 a1_3) := (blk_cell BKb.out 3).trans rfl
  have hcr_0 : wE.cell? ⟨gr, 0, none⟩ = some (.int .i64 0) := (blk_cell BKr.out 0).trans rfl
  have hcr_1 : wE.cell? ⟨gr, 1, none⟩ = some (.int .i64 0) := (blk_cell BKr.out 1).trans rfl
  have hcr_2 : wE.cell? ⟨gr, 2, none⟩ = some (.int .i64 0) := (blk_cell BKr.out 2).trans rfl
  have hcr_3 : wE.cell? ⟨gr, 3, none⟩ = some (.int .i64 0) := (blk_cell BKr.out 3).trans rfl
  have hco_0 : wE.cell? ⟨go, 0, none⟩ = some (.int .i64 (wrap64 (wrap64 (a0_0 * a1_0) + wrap64 (a0_1 * a1_2)))) := (blk_cell BKo.out 0).trans rfl
  have hco_1 : wE.cell? ⟨go, 1, none⟩ = some (.int .i64 (wrap64 (wrap64 (a0_0 * a1_1) + wrap64 (a0_1 * a1_3)))) := (blk_cell BKo.out 1).trans rfl
  have hco_2 : wE.cell? ⟨go, 2, none⟩ = some (.int .i64 (wrap64 (wrap64 (a0_2 * a1_0) + wrap64 (a0_3 * a1_2)))) := (blk_cell BKo.out 2).trans rfl
  have hco_3 : wE.cell? ⟨go, 3, none⟩ = some (.int .i64 (wrap64 (wrap64 (a0_2 * a1_1) + wrap64 (a0_3 * a1_3)))) := (blk_cell BKo.out 3).trans rfl
  have hf_ : ∀ i, wE.frozen? ⟨go, i, none⟩ = false := fun i => blk_frozen BKo.out i
  go_wp2_with (first | (go_at_call 56; with_reducible refine (spec_l04Reduce.calls k _ _ _ _ r1 r2 r3 r4 r5 _ H.out).mono ?_; intro e w5 ⟨he, hb⟩; subst he; clear hca_0 hca_1 hca_2 hca_3 hcb_0 hcb_1 hcb_2 hcb_3 hcr_0 hcr_1 hcr_2 hcr_3 hco_0 hco_1 hco_2 hco_3 hf_; have n0_ := Aside0.mk (blk_below (bkA BKr) hb); have n1_ := Aside0.mk (below_step blA hb); clear BKr HB BKa BKb BKo; have BKr := n0_; have HB := n1_; clear n0_ n1_ hb) | ((with_reducible refine gate_dst (N := 9) rfl ?_); refine box_event ?hg (N := 9) ?hd (cs := #[.int .i64 0, .int .i64 0, .int .i64 0, .int .i64 0]) (t := 25) ?hr ?_; (case hd => rfl); (case hg => rfl); (case hr => first | (go_simp; done) | (go_simp; rfl)); intro gn hg wn hbox hb; have n0_ := Aside0.mk (blk_below (bkA BKr) hb); have n1_ := Aside0.mk (below_step blA hb); have n2_ := Aside0.mk hbox; have n3_ := Aside0.mk (szA hg blA); have n4_ := Aside0.mk (neA hg (bkA BKr)); clear BKr; clear HB; have BKr := n0_; have HB := n1_; have BKn := n2_; have GEn := n3_; have NEr_n := n4_; clear n0_ n1_ n2_ n3_ n4_; clear hb hbox hg; have hcn_0 : wn.cell? ⟨gn, 0, none⟩ = some (.int .i64 0) := (blk_cell BKn.out 0).trans rfl; have hfn_0 := blk_frozen BKn.out 0; have hcn_1 : wn.cell? ⟨gn, 1, none⟩ = some (.int .i64 0) := (blk_cell BKn.out 1).trans rfl; have hfn_1 := blk_frozen BKn.out 1; have hcn_2 : wn.cell? ⟨gn, 2, none⟩ = some (.int .i64 0) := (blk_cell BKn.out 2).trans rfl; have hfn_2 := blk_frozen BKn.out 2; have hcn_3 : wn.cell? ⟨gn, 3, none⟩ = some (.int .i64 0) := (blk_cell BKn.out 3).trans rfl; have hfn_3 := blk_frozen BKn.out 3; have hnr := NEr_n.out; have hnr2 := fun z => NEr_n.out (Eq.symm z); have hcr5_0 : wn.cell? ⟨gr, 0, none⟩ = some (.int .i64 0) := (blk_cell BKr.out 0).trans rfl; have hfr5_0 := blk_frozen BKr.out 0; have hcr5_1 : wn.cell? ⟨gr, 1, none⟩ = some (.int .i64 0) := (blk_cell BKr.out 1).trans rfl; have hfr5_1 := blk_frozen BKr.out 1; have hcr5_2 : wn.cell? ⟨gr, 2, none⟩ = some (.int .i64 0) := (blk_cell BKr.out 2).trans rfl; have hfr5_2 := blk_frozen BKr.out 2; have hcr5_3 : wn.cell? ⟨gr, 3, none⟩ = some (.int .i64 0) := (blk_cell BKr.out 3).trans rfl; have hfr5_3 := blk_frozen BKr.out 3))
  refine bodyPost_ret (results_ct rfl _ _ gr 25 #[.int .i64 r1, .int .i64 r2, .int .i64 r3, .int .i64 r4] (0, 0) _ rfl (by (with_reducible repeat (first | refine blk_drewN ?_ _ | refine blk_drew ?_ | refine blk_alloc ?_ _)); refine blk_put (cs := #[.int .i64 r1, .int .i64 r2, .int .i64 r3, .int .i64 0]) ?_ 3 _ rfl; (with_reducible repeat (first | refine blk_drewN ?_ _ | refine blk_drew ?_ | refine blk_alloc ?_ _)); refine blk_put (cs := #[.int .i64 r1, .int .i64 r2, .int .i64 0, .int .i64 0]) ?_ 2 _ rfl; (with_reducible repeat (first | refine blk_drewN ?_ _ | refine blk_drew ?_ | refine blk_alloc ?_ _)); refine blk_put (cs := #[.int .i64 r1, .int .i64 0, .int .i64 0, .int .i64 0]) ?_ 1 _ rfl; (with_reducible repeat (first | refine blk_drewN ?_ _ | refine blk_drew ?_ | refine blk_alloc ?_ _)); refine blk_put (cs := #[.int .i64 0, .int .i64 0, .int .i64 0, .int .i64 0]) ?_ 0 _ rfl; (with_reducible repeat (first | refine blk_drewN ?_ _ | refine blk_drew ?_ | refine blk_alloc ?_ _)); repeat (first | (with_reducible exact BKr.out) | refine blk_far ?_ (Aside0.out (by assumption)) _)) Try.underlying25 rfl (by kernel_rfl)) rfl ?_
  exact ⟨by first | rfl | (simp <;> rfl), by repeat (first | (with_reducible exact HB.out) | (with_reducible first | apply pw_below_drewN | apply below_alloc | apply below_drew1) | refine below_set ?_ (Aside0.out (by assumption)))⟩
/-! ### impl_product: function 73 -/
def impl_product.f (k : Nat) (a0_0 a0_1 a0_2 a0_3 a1_0 a1_1 a1_2 a1_3 : Int) : Option (Int × Int × Int × Int × Bool) := impl_reduced.f k (wrap64 (wrap64 (a0_0 * a1_0) + wrap64 (a0_1 * a1_2))) (wrap64 (wrap64 (a0_0 * a1_1) + wrap64 (a0_1 * a1_3))) (wrap64 (wrap64 (a0_2 * a1_0) + wrap64 (a0_3 * a1_2))) (wrap64 (wrap64 (a0_2 * a1_1) + wrap64 (a0_3 * a1_3)))
theorem impl_product.mono : ∀ a0_0 a0_1 a0_2 a0_3 a1_0 a1_1 a1_2 a1_3 k, LeO (impl_product.f k a0_0 a0_1 a0_2 a0_3 a1_0 a1_1 a1_2 a1_3) (impl_product.f (k + 1) a0_0 a0_1 a0_2 a0_3 a1_0 a1_1 a1_2 a1_3) := fun _ _ _ _ _ _ _ _ k => impl_reduced.mono _ _ _ _ k
set_option maxHeartbeats 8000000 in
set_option maxRecDepth 100000 in
theorem impl_product.calls (k : Nat) (a0_0 a0_1 a0_2 a0_3 a1_0 a1_1 a1_2 a1_3 r1 r2 r3 r4 : Int) (r5 : Bool) (w : World) (h : impl_product.f k a0_0 a0_1 a0_2 a0_3 a1_0 a1_1 a1_2 a1_3 = some (r1, r2, r3, r4, r5)) :
    Calls Try.prog 73 #[.agg #[.int .i64 a0_0, .int .i64 a0_1, .int .i64 a0_2, .int .i64 a0_3], .agg #[.int .i64 a1_0, .int .i64 a1_1, .int .i64 a1_2, .int .i64 a1_3]] w fun e w' => e = .returned (.tuple #[.agg #[.int .i64 r1, .int .i64 r2, .int .i64 r3, .int .i64 r4], .bool r5]) ∧ Below w.heap.size w w' := by
  unfold impl_product.f at h
  have H := Aside0.mk h
  clear h
  have HB := Aside0.mk (Below.refl w.heap.size w)
  go_enter Try.func73, Try.ntmps73
  go_wp2_with (first | ((with_reducible refine gate_dst (N := 2) rfl ?_); refine box_event ?hg (N := 2) ?hd (cs := #[.int .i64 a0_0, .int .i64 a0_1, .int .i64 a0_2, .int .i64 a0_3]) (t := 25) ?hr ?_; (case hd => rfl); (case hg => rfl); (case hr => first | (go_simp; done) | (go_simp; rfl)); intro ga hg wa hbox hb; have n0_ := Aside0.mk (below_step blA hb); have n1_ := Aside0.mk hbox; have n2_ := Aside0.mk (szA hg blA); clear HB; have HB := n0_; have BKa := n1_; have GEa := n2_; clear n0_ n1_ n2_; clear hb hbox hg) | ((with_reducible refine gate_dst (N := 3) rfl ?_); refine box_event ?hg (N := 3) ?hd (cs := #[.int .i64 a1_0, .int .i64 a1_1, .int .i64 a1_2, .int .i64 a1_3]) (t := 25) ?hr ?_; (case hd => rfl); (case hg => rfl); (case hr => first | (go_simp; done) | (go_simp; rfl)); intro gb hg wb hbox hb; have n0_ := Aside0.mk (blk_below (bkA BKa) hb); have n1_ := Aside0.mk (below_step blA hb); have n2_ := Aside0.mk hbox; have n3_ := Aside0.mk (szA hg blA); clear BKa; clear HB; have BKa := n0_; have HB := n1_; have BKb := n2_; have GEb := n3_; clear n0_ n1_ n2_ n3_; clear hb hbox hg) | ((with_reducible refine gate_dst (N := 4) rfl ?_); refine box_event ?hg (N := 4) ?hd (cs := #[.int .i64 0, .int .i64 0, .int .i64 0, .int .i64 0]) (t := 25) ?hr ?_; (case hd => rfl); (case hg => rfl); (case hr => first | (go_simp; done) | (go_simp; rfl)); intro gr hg wr hbox hb; have n0_ := Aside0.mk (blk_below (bkA BKa) hb); have n1_ := Aside0.mk (blk_below (bkA BKb) hb); have n2_ := Aside0.mk (below_step blA hb); have n3_ := Aside0.mk hbox; have n4_ := Aside0.mk (szA hg blA); clear BKa; clear BKb; clear HB; have BKa := n0_; have BKb := n1_; have HB := n2_; have BKr := n3_; have GEr := n4_; clear n0_ n1_ n2_ n3_ n4_; clear hb hbox hg) | ((with_reducible refine gate_dst (N := 6) rfl ?_); refine box_event ?hg (N := 6) ?hd (cs := #[.int .i64 0, .int .i64 0, .int .i64 0, .int .i64 0]) (t := 25) ?hr ?_; (case hd => rfl); (case hg => rfl); (case hr => first | (go_simp; done) | (go_simp; rfl)); intro go hg wo hbox hb; have n0_ := Aside0.mk (blk_below (bkA BKa) hb); have n1_ := Aside0.mk (blk_below (bkA BKb) hb); have n2_ := Aside0.mk (blk_below (bkA BKr) hb); have n3_ := Aside0.mk (below_step blA hb); have n4_ := Aside0.mk hbox; have n5_ := Aside0.mk (szA hg blA); have n6_ := Aside0.mk (neA hg (bkA BKa)); have n7_ := Aside0.mk (neA hg (bkA BKb)); have n8_ := Aside0.mk (neA hg (bkA BKr)); clear BKa; clear BKb; clear BKr; clear HB; have BKa := n0_; have BKb := n1_; have BKr := n2_; have HB := n3_; have BKo := n4_; have GEo := n5_; have NEa_o := n6_; have NEb_o := n7_; have NEr_o := n8_; clear n0_ n1_ n2_ n3_ n4_ n5_ n6_ n7_ n8_; clear hb hbox hg; have hco_0 : wo.cell? ⟨go, 0, none⟩ = some (.int .i64 0) := (blk_cell BKo.out 0).trans rfl; have hfo_0 := blk_frozen BKo.out 0; have hco_1 : wo.cell? ⟨go, 1, none⟩ = some (.int .i64 0) := (blk_cell BKo.out 1).trans rfl; have hfo_1 := blk_frozen BKo.out 1; have hco_2 : wo.cell? ⟨go, 2, none⟩ = some (.int .i64 0) := (blk_cell BKo.out 2).trans rfl; have hfo_2 := blk_frozen BKo.out 2; have hco_3 : wo.cell? ⟨go, 3, none⟩ = some (.int .i64 0) := (blk_cell BKo.out 3).trans rfl; have hfo_3 := blk_frozen BKo.out 3))
  refine name_world (fun w' => w'.heap[ga]? = some (.cells #[.int .i64 a0_0, .int .i64 a0_1, .int .i64 a0_2, .int .i64 a0_3] 25 (0, 0)) ∧ w'.heap[gb]? = some (.cells #[.int .i64 a1_0, .int .i64 a1_1, .int .i64 a1_2, .int .i64 a1_3] 25 (0, 0)) ∧ w'.heap[gr]? = some (.cells #[.int .i64 0, .int .i64 0, .int .i64 0, .int .i64 0] 25 (0, 0)) ∧ w'.heap[go]? = some (.cells #[.int .i64 0, .int .i64 0, .int .i64 0, .int .i64 0] 25 (0, 0)) ∧ Below w.heap.size w w') ⟨by repeat (first | (with_reducible exact BKa.out) | (with_reducible first | refine blk_drewN ?_ _ | refine blk_drew ?_ | refine blk_alloc ?_ _) | refine blk_far ?_ NEa_o.out _), by repeat (first | (with_reducible exact BKb.out) | (with_reducible first | refine blk_drewN ?_ _ | refine blk_drew ?_ | refine blk_alloc ?_ _) | refine blk_far ?_ NEb_o.out _), by repeat (first | (with_reducible exact BKr.out) | (with_reducible first | refine blk_drewN ?_ _ | refine blk_drew ?_ | refine blk_alloc ?_ _) | refine blk_far ?_ NEr_o.out _), by (with_reducible repeat (first | refine blk_drewN ?_ _ | refine blk_drew ?_ | refine blk_alloc ?_ _)); refine blk_put (cs := #[.int .i64 0, .int .i64 0, .int .i64 0, .int .i64 0]) ?_ 3 _ rfl; (with_reducible repeat (first | refine blk_drewN ?_ _ | refine blk_drew ?_ | refine blk_alloc ?_ _)); refine blk_put (cs := #[.int .i64 0, .int .i64 0, .int .i64 0, .int .i64 0]) ?_ 2 _ rfl; (with_reducible repeat (first | refine blk_drewN ?_ _ | refine blk_drew ?_ | refine blk_alloc ?_ _)); refine blk_put (cs := #[.int .i64 0, .int .i64 0, .int .i64 0, .int .i64 0]) ?_ 1 _ rfl; (with_reducible repeat (first | refine blk_drewN ?_ _ | refine blk_drew ?_ | refine blk_alloc ?_ _)); refine blk_put (cs := #[.int .i64 0, .int .i64 0, .int .i64 0, .int .i64 0]) ?_ 0 _ rfl; (with_reducible repeat (first | refine blk_drewN ?_ _ | refine blk_drew ?_ | refine blk_alloc ?_ _)); exact BKo.out, by repeat (first | (with_reducible exact HB.out) | (with_reducible first | apply pw_below_drewN | apply below_alloc | apply below_drew1) | refine below_set ?_ GEo.out)⟩ ?_
  clear BKa BKb BKr BKo HB
  clear hco_0 hfo_0 hco_1 hfo_1 hco_2 hfo_2 hco_3 hfo_3
  rintro wA ⟨ha, hb, hr, ho, hbel⟩
  have BKa := Aside0.mk ha
  have BKb := Aside0.mk hb
  have BKr := Aside0.mk hr
  have BKo := Aside0.mk ho
  have HB := Aside0.mk hbel
  clear hbel ha hb hr ho
  have hca_0 : wA.cell? ⟨ga, 0, none⟩ = some (.int .i64 a0_0) := (blk_cell BKa.out 0).trans rfl
  have hca_1 : wA.cell? ⟨ga, 1, none⟩ = some (.int .i64 a0_1) := (blk_cell BKa.out 1).trans rfl
  have hca_2 : wA.cell? ⟨ga, 2, none⟩ = some (.int .i64 a0_2) := (blk_cell BKa.out 2).trans rfl
  have hca_3 : wA.cell? ⟨ga, 3, none⟩ = some (.int .i64 a0_3) := (blk_cell BKa.out 3).trans rfl
  have hcb_0 : wA.cell? ⟨gb, 0, none⟩ = some (.int .i64 a1_0) := (blk_cell BKb.out 0).trans rfl
  have hcb_1 : wA.cell? ⟨gb, 1, none⟩ = some (.int .i64 a1_1) := (blk_cell BKb.out 1).trans rfl
  have hcb_2 : wA.cell? ⟨gb, 2, none⟩ = some (.int .i64 a1_2) := (blk_cell BKb.out 2).trans rfl
  have hcb_3 : wA.cell? ⟨gb, 3, none⟩ = some (.int .i64 a1_3) := (blk_cell BKb.out 3).trans rfl
  have hcr_0 : wA.cell? ⟨gr, 0, none⟩ = some (.int .i64 0) := (blk_cell BKr.out 0).trans rfl
  have hcr_1 : wA.cell? ⟨gr, 1, none⟩ = some (.int .i64 0) := (blk_cell BKr.out 1).trans rfl
  have hcr_2 : wA.cell? ⟨gr, 2, none⟩ = some (.int .i64 0) := (blk_cell BKr.out 2).trans rfl
  have hcr_3 : wA.cell? ⟨gr, 3, none⟩ = some (.int .i64 0) := (blk_cell BKr.out 3).trans rfl
  have hco_0 : wA.cell? ⟨go, 0, none⟩ = some (.int .i64 0) := (blk_cell BKo.out 0).trans rfl
  have hco_1 : wA.cell? ⟨go, 1, none⟩ = some (.int .i64 0) := (blk_cell BKo.out 1).trans rfl
  have hco_2 : wA.cell? ⟨go, 2, none⟩ = some (.int .i64 0) := (blk_cell BKo.out 2).trans rfl
  have hco_3 : wA.cell? ⟨go, 3, none⟩ = some (.int .i64 0) := (blk_cell BKo.out 3).trans rfl
  have hf_ : ∀ i, wA.frozen? ⟨go, i, none⟩ = false := fun i => blk_frozen BKo.out i
  refine wp_loop_rounds 3 ?_
  rw [rounds_succ]; go_wp2
  refine wp_loop_rounds 3 ?_
  rw [rounds_succ]; go_wp2
  refine wp_region_still_tail 23 (by kernel_rfl) (by kernel_rfl) ?_
  change wpStill _ _ wA.drew (fun a' => wpList _ _ _ _ a' wA.drew) _ _
  simp only [List.take_succ_cons, List.take_zero, List.drop_succ_cons, List.drop_zero]
  repeat still_step
  refine wpStill_nil ?_
  go_wp2
  rw [rounds_succ]; go_wp2
  refine name_world (fun w' => w'.heap[ga]? = some (.cells #[.int .i64 a0_0, .int .i64 a0_1, .int .i64 a0_2, .int .i64 a0_3] 25 (0, 0)) ∧ w'.heap[gb]? = some (.cells #[.int .i64 a1_0, .int .i64 a1_1, .int .i64 a1_2, .int .i64 a1_3] 25 (0, 0)) ∧ w'.heap[gr]? = some (.cells #[.int .i64 0, .int .i64 0, .int .i64 0, .int .i64 0] 25 (0, 0)) ∧ w'.heap[go]? = some (.cells #[.int .i64 (wrap64 (wrap64 (a0_0 * a1_0) + wrap64 (a0_1 * a1_2))), .int .i64 0, .int .i64 0, .int .i64 0] 25 (0, 0)) ∧ Below w.heap.size w w') ⟨by repeat (first | (with_reducible exact BKa.out) | (with_reducible first | refine blk_drewN ?_ _ | refine blk_drew ?_ | refine blk_alloc ?_ _) | refine blk_far ?_ NEa_o.out _), by repeat (first | (with_reducible exact BKb.out) | (with_reducible first | refine blk_drewN ?_ _ | refine blk_drew ?_ | refine blk_alloc ?_ _) | refine blk_far ?_ NEb_o.out _), by repeat (first | (with_reducible exact BKr.out) | (with_reducible first | refine blk_drewN ?_ _ | refine blk_drew ?_ | refine blk_alloc ?_ _) | refine blk_far ?_ NEr_o.out _), by (with_reducible repeat (first | refine blk_drewN ?_ _ | refine blk_drew ?_ | refine blk_alloc ?_ _)); refine blk_put (cs := #[.int .i64 0, .int .i64 0, .int .i64 0, .int .i64 0]) ?_ 0 _ rfl; (with_reducible repeat (first | refine blk_drewN ?_ _ | refine blk_drew ?_ | refine blk_alloc ?_ _)); exact BKo.out, by repeat (first | (with_reducible exact HB.out) | (with_reducible first | apply pw_below_drewN | apply below_alloc | apply below_drew1) | refine below_set ?_ GEo.out)⟩ ?_
  clear BKa BKb BKr BKo HB
  clear hca_0 hca_1 hca_2 hca_3 hcb_0 hcb_1 hcb_2 hcb_3 hcr_0 hcr_1 hcr_2 hcr_3 hco_0 hco_1 hco_2 hco_3 hf_
  rintro wB ⟨ha, hb, hr, ho, hbel⟩
  have BKa := Aside0.mk ha
  have BKb := Aside0.mk hb
  have BKr := Aside0.mk hr
  have BKo := Aside0.mk ho
  have HB := Aside0.mk hbel
  clear hbel ha hb hr ho
  have hca_0 : wB.cell? ⟨ga, 0, none⟩ = some (.int .i64 a0_0) := (blk_cell BKa.out 0).trans rfl
  have hca_1 : wB.cell? ⟨ga, 1, none⟩ = some (.int .i64 a0_1) := (blk_cell BKa.out 1).trans rfl
  have hca_2 : wB.cell? ⟨ga, 2, none⟩ = some (.int .i64 a0_2) := (blk_cell BKa.out 2).trans rfl
  have hca_3 : wB.cell? ⟨ga, 3, none⟩ = some (.int .i64 a0_3) := (blk_cell BKa.out 3).trans rfl
  have hcb_0 : wB.cell? ⟨gb, 0, none⟩ = some (.int .i64 a1_0) := (blk_cell BKb.out 0).trans rfl
  have hcb_1 : wB.cell? ⟨gb, 1, none⟩ = some (.int .i64 a1_1) := (blk_cell BKb.out 1).trans rfl
  have hcb_2 : wB.cell? ⟨gb, 2, none⟩ = some (.int .i64 a1_2) := (blk_cell BKb.out 2).trans rfl
  have hcb_3 : wB.cell? ⟨gb, 3, none⟩ = some (.int .i64 a1_3) := (blk_cell BKb.out 3).trans rfl
  have hcr_0 : wB.cell? ⟨gr, 0, none⟩ = some (.int .i64 0) := (blk_cell BKr.out 0).trans rfl
  have hcr_1 : wB.cell? ⟨gr, 1, none⟩ = some (.int .i64 0) := (blk_cell BKr.out 1).trans rfl
  have hcr_2 : wB.cell? ⟨gr, 2, none⟩ = some (.int .i64 0) := (blk_cell BKr.out 2).trans rfl
  have hcr_3 : wB.cell? ⟨gr, 3, none⟩ = some (.int .i64 0) := (blk_cell BKr.out 3).trans rfl
  have hco_0 : wB.cell? ⟨go, 0, none⟩ = some (.int .i64 (wrap64 (wrap64 (a0_0 * a1_0) + wrap64 (a0_1 * a1_2)))) := (blk_cell BKo.out 0).trans rfl
  have hco_1 : wB.cell? ⟨go, 1, none⟩ = some (.int .i64 0) := (blk_cell BKo.out 1).trans rfl
  have hco_2 : wB.cell? ⟨go, 2, none⟩ = some (.int .i64 0) := (blk_cell BKo.out 2).trans rfl
  have hco_3 : wB.cell? ⟨go, 3, none⟩ = some (.int .i64 0) := (blk_cell BKo.out 3).trans rfl
  have hf_ : ∀ i, wB.frozen? ⟨go, i, none⟩ = false := fun i => blk_frozen BKo.out i
  refine wp_region_still_tail 23 (by kernel_rfl) (by kernel_rfl) ?_
  change wpStill _ _ wB.drew (fun a' => wpList _ _ _ _ a' wB.drew) _ _
  simp only [List.take_succ_cons, List.take_zero, List.drop_succ_cons, List.drop_zero]
  repeat still_step
  refine wpStill_nil ?_
  go_wp2
  rw [rounds_succ]; go_wp2
  rw [rounds_succ]; go_wp2
  refine wp_loop_rounds 3 ?_
  rw [rounds_succ]; go_wp2
  refine name_world (fun w' => w'.heap[ga]? = some (.cells #[.int .i64 a0_0, .int .i64 a0_1, .int .i64 a0_2, .int .i64 a0_3] 25 (0, 0)) ∧ w'.heap[gb]? = some (.cells #[.int .i64 a1_0, .int .i64 a1_1, .int .i64 a1_2, .int .i64 a1_3] 25 (0, 0)) ∧ w'.heap[gr]? = some (.cells #[.int .i64 0, .int .i64 0, .int .i64 0, .int .i64 0] 25 (0, 0)) ∧ w'.heap[go]? = some (.cells #[.int .i64 (wrap64 (wrap64 (a0_0 * a1_0) + wrap64 (a0_1 * a1_2))), .int .i64 (wrap64 (wrap64 (a0_0 * a1_1) + wrap64 (a0_1 * a1_3))), .int .i64 0, .int .i64 0] 25 (0, 0)) ∧ Below w.heap.size w w') ⟨by repeat (first | (with_reducible exact BKa.out) | (with_reducible first | refine blk_drewN ?_ _ | refine blk_drew ?_ | refine blk_alloc ?_ _) | refine blk_far ?_ NEa_o.out _), by repeat (first | (with_reducible exact BKb.out) | (with_reducible first | refine blk_drewN ?_ _ | refine blk_drew ?_ | refine blk_alloc ?_ _) | refine blk_far ?_ NEb_o.out _), by repeat (first | (with_reducible exact BKr.out) | (with_reducible first | refine blk_drewN ?_ _ | refine blk_drew ?_ | refine blk_alloc ?_ _) | refine blk_far ?_ NEr_o.out _), by (with_reducible repeat (first | refine blk_drewN ?_ _ | refine blk_drew ?_ | refine blk_alloc ?_ _)); refine blk_put (cs := #[.int .i64 (wrap64 (wrap64 (a0_0 * a1_0) + wrap64 (a0_1 * a1_2))), .int .i64 0, .int .i64 0, .int .i64 0]) ?_ 1 _ rfl; (with_reducible repeat (first | refine blk_drewN ?_ _ | refine blk_drew ?_ | refine blk_alloc ?_ _)); exact BKo.out, by repeat (first | (with_reducible exact HB.out) | (with_reducible first | apply pw_below_drewN | apply below_alloc | apply below_drew1) | refine below_set ?_ GEo.out)⟩ ?_
  clear BKa BKb BKr BKo HB
  clear hca_0 hca_1 hca_2 hca_3 hcb_0 hcb_1 hcb_2 hcb_3 hcr_0 hcr_1 hcr_2 hcr_3 hco_0 hco_1 hco_2 hco_3 hf_
  rintro wC ⟨ha, hb, hr, ho, hbel⟩
  have BKa := Aside0.mk ha
  have BKb := Aside0.mk hb
  have BKr := Aside0.mk hr
  have BKo := Aside0.mk ho
  have HB := Aside0.mk hbel
  clear hbel ha hb hr ho
  have hca_0 : wC.cell? ⟨ga, 0, none⟩ = some (.int .i64 a0_0) := (blk_cell BKa.out 0).trans rfl
  have hca_1 : wC.cell? ⟨ga, 1, none⟩ = some (.int .i64 a0_1) := (blk_cell BKa.out 1).trans rfl
  have hca_2 : wC.cell? ⟨ga, 2, none⟩ = some (.int .i64 a0_2) := (blk_cell BKa.out 2).trans rfl
  have hca_3 : wC.cell? ⟨ga, 3, none⟩ = some (.int .i64 a0_3) := (blk_cell BKa.out 3).trans rfl
  have hcb_0 : wC.cell? ⟨gb, 0, none⟩ = some (.int .i64 a1_0) := (blk_cell BKb.out 0).trans rfl
  have hcb_1 : wC.cell? ⟨gb, 1, none⟩ = some (.int .i64 a1_1) := (blk_cell BKb.out 1).trans rfl
  have hcb_2 : wC.cell? ⟨gb, 2, none⟩ = some (.int .i64 a1_2) := (blk_cell BKb.out 2).trans rfl
  have hcb_3 : wC.cell? ⟨gb, 3, none⟩ = some (.int .i64 a1_3) := (blk_cell BKb.out 3).trans rfl
  have hcr_0 : wC.cell? ⟨gr, 0, none⟩ = some (.int .i64 0) := (blk_cell BKr.out 0).trans rfl
  have hcr_1 : wC.cell? ⟨gr, 1, none⟩ = some (.int .i64 0) := (blk_cell BKr.out 1).trans rfl
  have hcr_2 : wC.cell? ⟨gr, 2, none⟩ = some (.int .i64 0) := (blk_cell BKr.out 2).trans rfl
  have hcr_3 : wC.cell? ⟨gr, 3, none⟩ = some (.int .i64 0) := (blk_cell BKr.out 3).trans rfl
  have hco_0 : wC.cell? ⟨go, 0, none⟩ = some (.int .i64 (wrap64 (wrap64 (a0_0 * a1_0) + wrap64 (a0_1 * a1_2)))) := (blk_cell BKo.out 0).trans rfl
  have hco_1 : wC.cell? ⟨go, 1, none⟩ = some (.int .i64 (wrap64 (wrap64 (a0_0 * a1_1) + wrap64 (a0_1 * a1_3)))) := (blk_cell BKo.out 1).trans rfl
  have hco_2 : wC.cell? ⟨go, 2, none⟩ = some (.int .i64 0) := (blk_cell BKo.out 2).trans rfl
  have hco_3 : wC.cell? ⟨go, 3, none⟩ = some (.int .i64 0) := (blk_cell BKo.out 3).trans rfl
  have hf_ : ∀ i, wC.frozen? ⟨go, i, none⟩ = false := fun i => blk_frozen BKo.out i
  refine wp_region_still_tail 23 (by kernel_rfl) (by kernel_rfl) ?_
  change wpStill _ _ wC.drew (fun a' => wpList _ _ _ _ a' wC.drew) _ _
  simp only [List.take_succ_cons, List.take_zero, List.drop_succ_cons, List.drop_zero]
  repeat still_step
  refine wpStill_nil ?_
  go_wp2
  rw [rounds_succ]; go_wp2
  refine name_world (fun w' => w'.heap[ga]? = some (.cells #[.int .i64 a0_0, .int .i64 a0_1, .int .i64 a0_2, .int .i64 a0_3] 25 (0, 0)) ∧ w'.heap[gb]? = some (.cells #[.int .i64 a1_0, .int .i64 a1_1, .int .i64 a1_2, .int .i64 a1_3] 25 (0, 0)) ∧ w'.heap[gr]? = some (.cells #[.int .i64 0, .int .i64 0, .int .i64 0, .int .i64 0] 25 (0, 0)) ∧ w'.heap[go]? = some (.cells #[.int .i64 (wrap64 (wrap64 (a0_0 * a1_0) + wrap64 (a0_1 * a1_2))), .int .i64 (wrap64 (wrap64 (a0_0 * a1_1) + wrap64 (a0_1 * a1_3))), .int .i64 (wrap64 (wrap64 (a0_2 * a1_0) + wrap64 (a0_3 * a1_2))), .int .i64 0] 25 (0, 0)) ∧ Below w.heap.size w w') ⟨by repeat (first | (with_reducible exact BKa.out) | (with_reducible first | refine blk_drewN ?_ _ | refine blk_drew ?_ | refine blk_alloc ?_ _) | refine blk_far ?_ NEa_o.out _), by repeat (first | (with_reducible exact BKb.out) | (with_reducible first | refine blk_drewN ?_ _ | refine blk_drew ?_ | refine blk_alloc ?_ _) | refine blk_far ?_ NEb_o.out _), by repeat (first | (with_reducible exact BKr.out) | (with_reducible first | refine blk_drewN ?_ _ | refine blk_drew ?_ | refine blk_alloc ?_ _) | refine blk_far ?_ NEr_o.out _), by (with_reducible repeat (first | refine blk_drewN ?_ _ | refine blk_drew ?_ | refine blk_alloc ?_ _)); refine blk_put (cs := #[.int .i64 (wrap64 (wrap64 (a0_0 * a1_0) + wrap64 (a0_1 * a1_2))), .int .i64 (wrap64 (wrap64 (a0_0 * a1_1) + wrap64 (a0_1 * a1_3))), .int .i64 0, .int .i64 0]) ?_ 2 _ rfl; (with_reducible repeat (first | refine blk_drewN ?_ _ | refine blk_drew ?_ | refine blk_alloc ?_ _)); exact BKo.out, by repeat (first | (with_reducible exact HB.out) | (with_reducible first | apply pw_below_drewN | apply below_alloc | apply below_drew1) | refine below_set ?_ GEo.out)⟩ ?_
  clear BKa BKb BKr BKo HB
  clear hca_0 hca_1 hca_2 hca_3 hcb_0 hcb_1 hcb_2 hcb_3 hcr_0 hcr_1 hcr_2 hcr_3 hco_0 hco_1 hco_2 hco_3 hf_
  rintro wD ⟨ha, hb, hr, ho, hbel⟩
  have BKa := Aside0.mk ha
  have BKb := Aside0.mk hb
  have BKr := Aside0.mk hr
  have BKo := Aside0.mk ho
  have HB := Aside0.mk hbel
  clear hbel ha hb hr ho
  have hca_0 : wD.cell? ⟨ga, 0, none⟩ = some (.int .i64 a0_0) := (blk_cell BKa.out 0).trans rfl
  have hca_1 : wD.cell? ⟨ga, 1, none⟩ = some (.int .i64 a0_1) := (blk_cell BKa.out 1).trans rfl
  have hca_2 : wD.cell? ⟨ga, 2, none⟩ = some (.int .i64 a0_2) := (blk_cell BKa.out 2).trans rfl
  have hca_3 : wD.cell? ⟨ga, 3, none⟩ = some (.int .i64 a0_3) := (blk_cell BKa.out 3).trans rfl
  have hcb_0 : wD.cell? ⟨gb, 0, none⟩ = some (.int .i64 a1_0) := (blk_cell BKb.out 0).trans rfl
  have hcb_1 : wD.cell? ⟨gb, 1, none⟩ = some (.int .i64 a1_1) := (blk_cell BKb.out 1).trans rfl
  have hcb_2 : wD.cell? ⟨gb, 2, none⟩ = some (.int .i64 a1_2) := (blk_cell BKb.out 2).trans rfl
  have hcb_3 : wD.cell? ⟨gb, 3, none⟩ = some (.int .i64 a1_3) := (blk_cell BKb.out 3).trans rfl
  have hcr_0 : wD.cell? ⟨gr, 0, none⟩ = some (.int .i64 0) := (blk_cell BKr.out 0).trans rfl
  have hcr_1 : wD.cell? ⟨gr, 1, none⟩ = some (.int .i64 0) := (blk_cell BKr.out 1).trans rfl
  have hcr_2 : wD.cell? ⟨gr, 2, none⟩ = some (.int .i64 0) := (blk_cell BKr.out 2).trans rfl
  have hcr_3 : wD.cell? ⟨gr, 3, none⟩ = some (.int .i64 0) := (blk_cell BKr.out 3).trans rfl
  have hco_0 : wD.cell? ⟨go, 0, none⟩ = some (.int .i64 (wrap64 (wrap64 (a0_0 * a1_0) + wrap64 (a0_1 * a1_2)))) := (blk_cell BKo.out 0).trans rfl
  have hco_1 : wD.cell? ⟨go, 1, none⟩ = some (.int .i64 (wrap64 (wrap64 (a0_0 * a1_1) + wrap64 (a0_1 * a1_3)))) := (blk_cell BKo.out 1).trans rfl
  have hco_2 : wD.cell? ⟨go, 2, none⟩ = some (.int .i64 (wrap64 (wrap64 (a0_2 * a1_0) + wrap64 (a0_3 * a1_2)))) := (blk_cell BKo.out 2).trans rfl
  have hco_3 : wD.cell? ⟨go, 3, none⟩ = some (.int .i64 0) := (blk_cell BKo.out 3).trans rfl
  have hf_ : ∀ i, wD.frozen? ⟨go, i, none⟩ = false := fun i => blk_frozen BKo.out i
  refine wp_region_still_tail 23 (by kernel_rfl) (by kernel_rfl) ?_
  change wpStill _ _ wD.drew (fun a' => wpList _ _ _ _ a' wD.drew) _ _
  simp only [List.take_succ_cons, List.take_zero, List.drop_succ_cons, List.drop_zero]
  repeat still_step
  refine wpStill_nil ?_
  go_wp2
  rw [rounds_succ]; go_wp2
  rw [rounds_succ]
  refine name_world (fun w' => w'.heap[ga]? = some (.cells #[.int .i64 a0_0, .int .i64 a0_1, .int .i64 a0_2, .int .i64 a0_3] 25 (0, 0)) ∧ w'.heap[gb]? = some (.cells #[.int .i64 a1_0, .int .i64 a1_1, .int .i64 a1_2, .int .i64 a1_3] 25 (0, 0)) ∧ w'.heap[gr]? = some (.cells #[.int .i64 0, .int .i64 0, .int .i64 0, .int .i64 0] 25 (0, 0)) ∧ w'.heap[go]? = some (.cells #[.int .i64 (wrap64 (wrap64 (a0_0 * a1_0) + wrap64 (a0_1 * a1_2))), .int .i64 (wrap64 (wrap64 (a0_0 * a1_1) + wrap64 (a0_1 * a1_3))), .int .i64 (wrap64 (wrap64 (a0_2 * a1_0) + wrap64 (a0_3 * a1_2))), .int .i64 (wrap64 (wrap64 (a0_2 * a1_1) + wrap64 (a0_3 * a1_3)))] 25 (0, 0)) ∧ Below w.heap.size w w') ⟨by repeat (first | (with_reducible exact BKa.out) | (with_reducible first | refine blk_drewN ?_ _ | refine blk_drew ?_ | refine blk_alloc ?_ _) | refine blk_far ?_ NEa_o.out _), by repeat (first | (with_reducible exact BKb.out) | (with_reducible first | refine blk_drewN ?_ _ | refine blk_drew ?_ | refine blk_alloc ?_ _) | refine blk_far ?_ NEb_o.out _), by repeat (first | (with_reducible exact BKr.out) | (with_reducible first | refine blk_drewN ?_ _ | refine blk_drew ?_ | refine blk_alloc ?_ _) | refine blk_far ?_ NEr_o.out _), by (with_reducible repeat (first | refine blk_drewN ?_ _ | refine blk_drew ?_ | refine blk_alloc ?_ _)); refine blk_put (cs := #[.int .i64 (wrap64 (wrap64 (a0_0 * a1_0) + wrap64 (a0_1 * a1_2))), .int .i64 (wrap64 (wrap64 (a0_0 * a1_1) + wrap64 (a0_1 * a1_3))), .int .i64 (wrap64 (wrap64 (a0_2 * a1_0) + wrap64 (a0_3 * a1_2))), .int .i64 0]) ?_ 3 _ rfl; (with_reducible repeat (first | refine blk_drewN ?_ _ | refine blk_drew ?_ | refine blk_alloc ?_ _)); exact BKo.out, by repeat (first | (with_reducible exact HB.out) | (with_reducible first | apply pw_below_drewN | apply below_alloc | apply below_drew1) | refine below_set ?_ GEo.out)⟩ ?_
  clear BKa BKb BKr BKo HB
  clear hca_0 hca_1 hca_2 hca_3 hcb_0 hcb_1 hcb_2 hcb_3 hcr_0 hcr_1 hcr_2 hcr_3 hco_0 hco_1 hco_2 hco_3 hf_
  rintro wE ⟨ha, hb, hr, ho, hbel⟩
  have BKa := Aside0.mk ha
  have BKb := Aside0.mk hb
  have BKr := Aside0.mk hr
  have BKo := Aside0.mk ho
  have HB := Aside0.mk hbel
  clear hbel ha hb hr ho
  have hca_0 : wE.cell? ⟨ga, 0, none⟩ = some (.int .i64 a0_0) := (blk_cell BKa.out 0).trans rfl
  have hca_1 : wE.cell? ⟨ga, 1, none⟩ = some (.int .i64 a0_1) := (blk_cell BKa.out 1).trans rfl
  have hca_2 : wE.cell? ⟨ga, 2, none⟩ = some (.int .i64 a0_2) := (blk_cell BKa.out 2).trans rfl
  have hca_3 : wE.cell? ⟨ga, 3, none⟩ = some (.int .i64 a0_3) := (blk_cell BKa.out 3).trans rfl
  have hcb_0 : wE.cell? ⟨gb, 0, none⟩ = some (.int .i64 a1_0) := (blk_cell BKb.out 0).trans rfl
  have hcb_1 : wE.cell? ⟨gb, 1, none⟩ = some (.int .i64 a1_1) := (blk_cell BKb.out 1).trans rfl
  have hcb_2 : wE.cell? ⟨gb, 2, none⟩ = some (.int .i64 a1_2) := (blk_cell BKb.out 2).trans rfl
  have hcb_3 : wE.cell? ⟨gb, 3, none⟩ = some (.int .i64 a1_3) := (blk_cell BKb.out 3).trans rfl
  have hcr_0 : wE.cell? ⟨gr, 0, none⟩ = some (.int .i64 0) := (blk_cell BKr.out 0).trans rfl
  have hcr_1 : wE.cell? ⟨gr, 1, none⟩ = some (.int .i64 0) := (blk_cell BKr.out 1).trans rfl
  have hcr_2 : wE.cell? ⟨gr, 2, none⟩ = some (.int .i64 0) := (blk_cell BKr.out 2).trans rfl
  have hcr_3 : wE.cell? ⟨gr, 3, none⟩ = some (.int .i64 0) := (blk_cell BKr.out 3).trans rfl
  have hco_0 : wE.cell? ⟨go, 0, none⟩ = some (.int .i64 (wrap64 (wrap64 (a0_0 * a1_0) + wrap64 (a0_1 * a1_2)))) := (blk_cell BKo.out 0).trans rfl
  have hco_1 : wE.cell? ⟨go, 1, none⟩ = some (.int .i64 (wrap64 (wrap64 (a0_0 * a1_1) + wrap64 (a0_1 * a1_3)))) := (blk_cell BKo.out 1).trans rfl
  have hco_2 : wE.cell? ⟨go, 2, none⟩ = some (.int .i64 (wrap64 (wrap64 (a0_2 * a1_0) + wrap64 (a0_3 * a1_2)))) := (blk_cell BKo.out 2).trans rfl
  have hco_3 : wE.cell? ⟨go, 3, none⟩ = some (.int .i64 (wrap64 (wrap64 (a0_2 * a1_1) + wrap64 (a0_3 * a1_3)))) := (blk_cell BKo.out 3).trans rfl
  have hf_ : ∀ i, wE.frozen? ⟨go, i, none⟩ = false := fun i => blk_frozen BKo.out i
  go_wp2_with (go_at_call 88; with_reducible refine (impl_reduced.calls k _ _ _ _ r1 r2 r3 r4 r5 _ H.out).mono ?_; intro e w5 ⟨he, hb⟩; subst he; clear hca_0 hca_1 hca_2 hca_3 hcb_0 hcb_1 hcb_2 hcb_3 hcr_0 hcr_1 hcr_2 hcr_3 hco_0 hco_1 hco_2 hco_3 hf_; have n0_ := Aside0.mk (blk_below (bkA BKr) hb); have n1_ := Aside0.mk (below_step blA hb); clear BKr HB BKa BKb BKo; have BKr := n0_; have HB := n1_; clear n0_ n1_ hb; have hcr5_0 : w5.cell? ⟨gr, 0, none⟩ = some (.int .i64 0) := (blk_cell BKr.out 0).trans rfl; have hfr5_0 := blk_frozen BKr.out 0; have hcr5_1 : w5.cell? ⟨gr, 1, none⟩ = some (.int .i64 0) := (blk_cell BKr.out 1).trans rfl; have hfr5_1 := blk_frozen BKr.out 1; have hcr5_2 : w5.cell? ⟨gr, 2, none⟩ = some (.int .i64 0) := (blk_cell BKr.out 2).trans rfl; have hfr5_2 := blk_frozen BKr.out 2; have hcr5_3 : w5.cell? ⟨gr, 3, none⟩ = some (.int .i64 0) := (blk_cell BKr.out 3).trans rfl; have hfr5_3 := blk_frozen BKr.out 3)
  refine bodyPost_ret (results_ct rfl _ _ gr 25 #[.int .i64 r1, .int .i64 r2, .int .i64 r3, .int .i64 r4] (0, 0) _ rfl (by (with_reducible repeat (first | refine blk_drewN ?_ _ | refine blk_drew ?_ | refine blk_alloc ?_ _)); refine blk_put (cs := #[.int .i64 r1, .int .i64 r2, .int .i64 r3, .int .i64 0]) ?_ 3 _ rfl; (with_reducible repeat (first | refine blk_drewN ?_ _ | refine blk_drew ?_ | refine blk_alloc ?_ _)); refine blk_put (cs := #[.int .i64 r1, .int .i64 r2, .int .i64 0, .int .i64 0]) ?_ 2 _ rfl; (with_reducible repeat (first | refine blk_drewN ?_ _ | refine blk_drew ?_ | refine blk_alloc ?_ _)); refine blk_put (cs := #[.int .i64 r1, .int .i64 0, .int .i64 0, .int .i64 0]) ?_ 1 _ rfl; (with_reducible repeat (first | refine blk_drewN ?_ _ | refine blk_drew ?_ | refine blk_alloc ?_ _)); refine blk_put (cs := #[.int .i64 0, .int .i64 0, .int .i64 0, .int .i64 0]) ?_ 0 _ rfl; (with_reducible repeat (first | refine blk_drewN ?_ _ | refine blk_drew ?_ | refine blk_alloc ?_ _)); repeat (first | (with_reducible exact BKr.out) | refine blk_far ?_ (Aside0.out (by assumption)) _)) Try.underlying25 rfl (by kernel_rfl)) rfl ?_
  exact ⟨by first | rfl | (simp <;> rfl), by repeat (first | (with_reducible exact HB.out) | (with_reducible first | apply pw_below_drewN | apply below_alloc | apply below_drew1) | refine below_set ?_ (Aside0.out (by assumption)))⟩
end Go.Proofs.Ytmhajnfdbjnegaa.PAll
