/- FnExactIsClosedList: the row of the law over its contract. -/
import Derived.Test.YtmhajnfdbjnegaaRows
import Derived.Test.YtmhajnfdbjnegaaQLFnExactIsClosedList
import Derived.Test.YtmhajnfdbjnegaaPureFnExactIsClosedList
import Derived.WalkKit
import Derived.ProofKit
import Derived.OpenShut
import Derived.ShutString
import Derived.ChangeOld
import Derived.Below
import Derived.SizedLaws
import Derived.Lib.SmallJoins
import Derived.Test.YtmhajnfdbjnegaaMats
namespace Go.Proofs.Ytmhajnfdbjnegaa.fnExactIsClosedList
open Go.ChangeShapes Go.WideShapes Go.ChangeAt Go.RowKit Go.Joins
open Go.ChangeMaps (open_string shut_string)
set_option linter.unusedVariables false
set_option linter.unusedSimpArgs false
theorem own : ownKnob Try.prog.godebug = none := by kernel_rfl
theorem laidOut : laidOutB Try.prog = true := by kernel_rfl
set_option maxRecDepth 100000 in
theorem lifted (os : Os) (started : os.Started) (H : Type) (enc : TypeId × Value → H) :
    ReturnsInHanded {} Try.checked os 11 .any (Rows.fnExactIsClosedListSpec.pre6 enc Try.prog Try.f11 Rows.fnExactIsClosedListRow.domain false) (Rows.fnExactIsClosedListSpec.post enc Try.prog Try.f11 false true false false) := by
  refine returnsInHanded_of_change_sized (C := Try.checked) own started (by kernel_rfl) Try.func11
    (ChangeSpec.witness6 (enc := enc) (C := Try.checked) false ⟨#[], #[.slice none 0 0], []⟩ 8 (by kernel_rfl) (by kernel_rfl) (by kernel_rfl) (by kernel_rfl)) ?_
  intro W base args ds gs before hval0 hW hcnd hsz0 _
  have hval : ∀ (j : Nat) t v, Try.f11.params[j]? = some t → args[j]? = some v → Value.okWide Try.prog W .any base t v := hval0
  have hW' := hW
  obtain ⟨p, q, hA0, hV, rfl, hfz, hnd⟩ := hW
  have hA : DataW.TrodAll enc Try.prog W 0 (fun _ => true) true Try.f11.params.toList args.toList ds p := hA0
  rw [Try.params11] at hA hval
  obtain ⟨v0, vs0, d0, ds0, p0, q0, hargs, rfl, rfl, h0, r0⟩ := trodAll_cons hA
  obtain ⟨rfl, rfl, rfl⟩ := trodAll_nil r0
  obtain rfl : args = #[v0] := by cases args; simp_all
  obtain ⟨rfl, rfl⟩ := trodVars_none hV
  obtain ⟨A0, n0, c0, rfl⟩ := okWide_slice Try.underlying46 (hval 0 46 v0 rfl rfl)
  have kk0 := h0
  have lt0 : ∀ x ∈ p0, x.block < W.heap.size := by obtain ⟨m, hm⟩ := kk0; exact DataW.trod_lt m _ _ _ hm
  obtain ⟨fu0, hf0⟩ := h0
  obtain ⟨hl0, hm0, zs0, hz0, hq0, _⟩ := Mats.open_mats Try.underlying46 Try.underlying23 Try.underlying22 Try.underlying2 (show Try.prog.cellsOf 23 = 4 by kernel_rfl) (show Try.prog.cellsOf 22 = 2 by kernel_rfl) (show Try.prog.cellsOf 2 = 1 by kernel_rfl) (by simpa [Value.cells] using hf0)
  obtain ⟨l0, rfl, hr0⟩ : ∃ l : List PAll.S23, l.length = n0 ∧ Go.Proofs.YtmhajnfdbjnegaaW.PrintWords.Kd.C PAll.k23 W A0 n0 l := by
    refine ⟨zs0.map fun p => ⟨⟨p.1, p.2.1⟩, ⟨p.2.2.1, p.2.2.2⟩⟩, by simpa using hz0, by simpa using hz0, by unfold maxLen at hm0; omega, fun h0 => ?_⟩
    obtain ⟨ad, e, hc⟩ := hq0 h0
    refine ⟨ad, e, fun j p hj => ?_⟩
    rw [List.getElem?_map] at hj
    obtain ⟨q, hq, rfl⟩ := Option.map_eq_some_iff.mp hj
    exact ⟨_, rfl, PAll.k23_mk W _, fun i u hi => hc j q hq i u hi⟩
  have lm0 : l0.length ≤ 9223372036854775807 := by unfold maxLen at hm0; omega
  clear hA0 hval0 hsz0
  simp only [List.append_nil, List.nil_append] at hW'
  obtain ⟨k, hk⟩ := Pure.FnExactIsClosedList l0 lm0
  refine (PAll.laws_FnExactIsClosedList.calls k A0 c0 l0 true W hr0 hl0 hk).mono fun e W' ⟨he, bel⟩ => ?_
  subst he
  exact ⟨_, rfl, _, _, _, [], _, [], hW', trodAll_mk1 (shut_bool Try.underlying4 _), (trodAll_cons_mk (Below.trod laidOut (by kernel_rfl) (of_decide_eq_true (by kernel_rfl)) kk0 bel lt0) trodAll_mk0), rfl, bel.frame _, fun h => by cases h⟩
theorem over : Rows.fnExactIsClosedListRow.holds Try.pinned (OpenSpec.ofChange Rows.fnExactIsClosedListSpec) :=
  OpenClaim.holds_of_wide 11 Try.f11 rfl rfl rfl rfl rfl rfl rfl ⟨rfl, rfl, rfl, rfl, rfl⟩ rfl rfl rfl rfl rfl (by kernel_rfl) Try.func11 (by kernel_rfl)
    (of_decide_eq_true (by kernel_rfl)) (by unfold Func.isWrapper; first | (rw [if_pos (by decide +kernel)]; kernel_rfl) | (rw [if_neg (by decide +kernel)]; exact ⟨rfl, rfl⟩))
    (fun os started H enc _ => lifted os started H enc)
theorem proved : Rows.FnExactIsClosedListSaid := over
#print axioms proved
end Go.Proofs.Ytmhajnfdbjnegaa.fnExactIsClosedList
namespace Go.Proofs.Ytmhajnfdbjnegaa
/-- The row, under a short name, for the claim. -/
theorem fnExactIsClosedList_holds : Rows.FnExactIsClosedListSaid := fnExactIsClosedList.proved
end Go.Proofs.Ytmhajnfdbjnegaa
