-- turned for this claim out of the kit's print: the same functions, packed anew
import Derived.Test.YtmhajnfdbjnegaaQx
namespace Go.Proofs.Ytmhajnfdbjnegaa.PAll
open Go.RowKit Go.Proofs.YtmhajnfdbjnegaaW.PrintWords Go.Proofs.YtmhajnfdbjnegaaW.PrintLast Go.Proofs.YtmhajnfdbjnegaaW.PrintMore
attribute [local go_sem] Go.Proofs.Ytmhajnfdbjnegaa.Aux.setCell_drewN Go.Proofs.Ytmhajnfdbjnegaa.Aux.isSome_setCell max2_int min2_int max_two min_two max_three min_three max_four min_four   -- for this text's walks alone
set_option linter.unusedVariables false
set_option linter.unusedSimpArgs false
/-! ### laws_eqInt64A2: function 59 -/
def laws_eqInt64A2.f (a0_0 a0_1 a1_0 a1_1 : Int) : Option (Bool) := some (decide (a0_0 = a1_0 ∧ a0_1 = a1_1))
set_option maxHeartbeats 8000000 in
set_option maxRecDepth 100000 in
theorem laws_eqInt64A2.calls (a0_0 a0_1 a1_0 a1_1 : Int) (r : Bool) (w : World) (h : laws_eqInt64A2.f a0_0 a0_1 a1_0 a1_1 = some r) :
    Calls Try.prog 59 #[.agg #[.int .i64 a0_0, .int .i64 a0_1], .agg #[.int .i64 a1_0, .int .i64 a1_1]] w fun e w' => e = .returned (.bool r) ∧ Below w.heap.size w w' := by
  have HR := Aside0.mk (Option.some.inj h)
  clear h
  go_enter Try.func59, Try.ntmps59
  go_wp2
  refine wp_loop_rounds 3 ?_
  repeat any_goals (first | (rw [rounds_succ]; go_wp2) | (go_quiet (fail); go_wp2))
  all_goals go_returns
  all_goals refine ⟨bret ?_, by repeat (first | (with_reducible exact Below.refl _ _) | apply pw_below_drewN | apply below_alloc | apply below_drew1)⟩
  all_goals rw [← HR.out]
  all_goals clear HR
  all_goals try simp only [bne_iff_ne, bne_eq_false_iff_eq, ne_eq] at *
  all_goals first
    | (symm; refine decide_eq_false ?_; omega)
    | (symm; refine decide_eq_true ?_; omega)
/-! ### laws_eqMatrix: function 22 -/
def laws_eqMatrix.f (a0_0 a0_1 a0_2 a0_3 a1_0 a1_1 a1_2 a1_3 : Int) : Option (Bool) := some (decide (a0_0 = a1_0 ∧ a0_1 = a1_1 ∧ a0_2 = a1_2 ∧ a0_3 = a1_3))
set_option maxHeartbeats 8000000 in
set_option maxRecDepth 100000 in
theorem laws_eqMatrix.calls (a0_0 a0_1 a0_2 a0_3 a1_0 a1_1 a1_2 a1_3 : Int) (r : Bool) (w : World) (h : laws_eqMatrix.f a0_0 a0_1 a0_2 a0_3 a1_0 a1_1 a1_2 a1_3 = some r) :
    Calls Try.prog 22 #[.agg #[.int .i64 a0_0, .int .i64 a0_1, .int .i64 a0_2, .int .i64 a0_3], .agg #[.int .i64 a1_0, .int .i64 a1_1, .int .i64 a1_2, .int .i64 a1_3]] w fun e w' => e = .returned (.bool r) ∧ Below w.heap.size w w' := by
  have HR := Aside0.mk (Option.some.inj h)
  clear h
  have HB := Aside0.mk (Below.refl w.heap.size w)
  go_enter Try.func22, Try.ntmps22
  go_wp2
  refine wp_loop_rounds 3 ?_
  repeat any_goals (first
    | (rw [rounds_succ]; go_wp2)
    | ((go_region_with (go_at_call 59; refine (laws_eqInt64A2.calls _ _ _ _ _ _ rfl).mono ?_; rintro e w' ⟨rfl, hb⟩)) <;> (
        have n0_ := Aside0.mk (below_step (by repeat (first | (with_reducible exact HB.out) | apply pw_below_drewN | apply below_alloc | apply below_drew1)) hb)
        obtain ⟨hc, hf⟩ := bcell hb
        clear HB hb
        have HB := n0_
        clear n0_
        go_wp2)))
  all_goals go_returns
  all_goals refine ⟨bret ?_, by repeat (first | (with_reducible exact HB.out) | apply pw_below_drewN | apply below_alloc | apply below_drew1)⟩
  all_goals rw [← HR.out]
  all_goals clear HR
  all_goals try simp only [Bool.not_eq_true', Bool.not_eq_false', decide_eq_false_iff_not, decide_eq_true_eq] at *
  all_goals first
    | (symm; refine decide_eq_false ?_; omega)
    | (symm; refine decide_eq_true ?_; omega)
end Go.Proofs.Ytmhajnfdbjnegaa.PAll
