/- FnExactMultiplyMatrices: the row of the law over its contract, as the print writes it, one name put right. -/
/- FnExactMultiplyMatrices: the row of the law over its contract. -/
import Derived.Test.YtmhajnfdbjnegaaRows
import Derived.Test.YtmhajnfdbjnegaaQLFnExactMultiplyMatrices
import Derived.Test.YtmhajnfdbjnegaaPureFnExactMultiplyMatrices
import Derived.WalkKit
import Derived.ProofKit
import Derived.OpenShut
import Derived.ShutString
import Derived.ChangeOld
import Derived.Below
import Derived.SizedLaws
import Derived.Lib.SmallJoins
import Derived.Test.YtmhajnfdbjnegaaMats
namespace Go.Proofs.Ytmhajnfdbjnegaa.fnExactMultiplyMatrices
open Go.ChangeShapes Go.WideShapes Go.ChangeAt Go.RowKit Go.Joins
open Go.ChangeMaps (open_string shut_string)
set_option linter.unusedVariables false
set_option linter.unusedSimpArgs false
theorem own : ownKnob Try.prog.godebug = none := by kernel_rfl
set_option maxRecDepth 100000 in
theorem lifted (os : Os) (started : os.Started) (H : Type) (enc : TypeId × Value → H) :
    ReturnsInHanded {} Try.checked os 10 .any (Rows.fnExactMultiplyMatricesSpec.pre6 enc Try.prog Try.f10 Rows.fnExactMultiplyMatricesRow.domain false) (Rows.fnExactMultiplyMatricesSpec.post enc Try.prog Try.f10 false true false false) := by
  refine returnsInHanded_of_change_sized (C := Try.checked) own started (by kernel_rfl) Try.func10
    (ChangeSpec.witness6 (enc := enc) (C := Try.checked) false ⟨#[], #[.agg #[.int .i64 0, .int .i64 0, .int .i64 0, .int .i64 0], .agg #[.int .i64 0, .int .i64 0, .int .i64 0, .int .i64 0]], []⟩ 8 (by kernel_rfl) (by kernel_rfl) (by kernel_rfl) (by kernel_rfl)) ?_
  intro W base args ds gs before hval0 hW hcnd hsz0 _
  have hval : ∀ (j : Nat) t v, Try.f10.params[j]? = some t → args[j]? = some v → Value.okWide Try.prog W .any base t v := hval0
  have hW' := hW
  obtain ⟨p, q, hA0, hV, rfl, hfz, hnd⟩ := hW
  have hA : DataW.TrodAll enc Try.prog W 0 (fun _ => true) true Try.f10.params.toList args.toList ds p := hA0
  rw [Try.params10] at hA hval
  obtain ⟨v0, vs0, d0, ds0, p0, q0, hargs, rfl, rfl, h0, r0⟩ := trodAll_cons hA
  obtain ⟨v1, vs1, d1, ds1, p1, q1, rfl, rfl, rfl, h1, r1⟩ := trodAll_cons r0
  obtain ⟨rfl, rfl, rfl⟩ := trodAll_nil r1
  obtain rfl : args = #[v0, v1] := by cases args; simp_all
  obtain ⟨rfl, rfl⟩ := trodVars_none hV
  obtain ⟨a0_0, a0_1, a0_2, a0_3, rfl, rfl, rfl, w0_0, w0_1, w0_2, w0_3⟩ := Mats.open_mat Try.underlying23 Try.underlying22 Try.underlying2 (show Try.prog.cellsOf 23 = 4 by kernel_rfl) (show Try.prog.cellsOf 22 = 2 by kernel_rfl) (show Try.prog.cellsOf 2 = 1 by kernel_rfl) (hval 0 23 v0 rfl rfl) h0
  obtain ⟨a1_0, a1_1, a1_2, a1_3, rfl, rfl, rfl, w1_0, w1_1, w1_2, w1_3⟩ := Mats.open_mat Try.underlying23 Try.underlying22 Try.underlying2 (show Try.prog.cellsOf 23 = 4 by kernel_rfl) (show Try.prog.cellsOf 22 = 2 by kernel_rfl) (show Try.prog.cellsOf 2 = 1 by kernel_rfl) (hval 1 23 v1 rfl rfl) h1
  clear hA0 hval0 hsz0
  simp only [List.append_nil, List.nil_append] at hW'
  obtain ⟨k, hk⟩ := Pure.FnExactMultiplyMatrices a0_0 a0_1 a0_2 a0_3 a1_0 a1_1 a1_2 a1_3 w0_0 w0_1 w0_2 w0_3 w1_0 w1_1 w1_2 w1_3
  refine (PAll.laws_FnExactMultiplyMatrices.calls k a0_0 a0_1 a0_2 a0_3 a1_0 a1_1 a1_2 a1_3 true W hk).mono fun e W' ⟨he, bel⟩ => ?_
  subst he
  exact ⟨_, rfl, _, _, _, [], _, [], hW', trodAll_mk1 (shut_bool Try.underlying4 _), (trodAll_cons_mk (Mats.shut_mat Try.underlying23 Try.underlying22 Try.underlying2 (show Try.prog.cellsOf 23 = 4 by kernel_rfl) (show Try.prog.cellsOf 22 = 2 by kernel_rfl) (show Try.prog.cellsOf 2 = 1 by kernel_rfl) w0_0 w0_1 w0_2 w0_3) (trodAll_cons_mk (Mats.shut_mat Try.underlying23 Try.underlying22 Try.underlying2 (show Try.prog.cellsOf 23 = 4 by kernel_rfl) (show Try.prog.cellsOf 22 = 2 by kernel_rfl) (show Try.prog.cellsOf 2 = 1 by kernel_rfl) w1_0 w1_1 w1_2 w1_3) trodAll_mk0)), rfl, bel.frame _, fun h => by cases h⟩
theorem over : Rows.fnExactMultiplyMatricesRow.holds Try.pinned (OpenSpec.ofChange Rows.fnExactMultiplyMatricesSpec) :=
  OpenClaim.holds_of_wide 10 Try.f10 rfl rfl rfl rfl rfl rfl rfl ⟨rfl, rfl, rfl, rfl, rfl⟩ rfl rfl rfl rfl rfl (by kernel_rfl) Try.func10 (by kernel_rfl)
    (of_decide_eq_true (by kernel_rfl)) (by unfold Func.isWrapper; first | (rw [if_pos (by decide +kernel)]; kernel_rfl) | (rw [if_neg (by decide +kernel)]; exact ⟨rfl, rfl⟩))
    (fun os started H enc _ => lifted os started H enc)
theorem proved : Rows.FnExactMultiplyMatricesSaid := over
#print axioms proved
end Go.Proofs.Ytmhajnfdbjnegaa.fnExactMultiplyMatrices
namespace Go.Proofs.Ytmhajnfdbjnegaa
/-- The row, under a short name, for the claim. -/
theorem fnExactMultiplyMatrices_holds : Rows.FnExactMultiplyMatricesSaid := fnExactMultiplyMatrices.proved
end Go.Proofs.Ytmhajnfdbjnegaa
