/- FnExactQuotientOf: the row of the law over its contract. -/
import Derived.Test.YtnhiehpbkimaeaaGreatRows
import Derived.Test.YtnhiehpbkimaeaaGreatQLFnExactQuotientOf
import Derived.Test.YtnhiehpbkimaeaaGreatPureFnExactQuotientOf
import Derived.WalkKit
import Derived.ProofKit
import Derived.OpenShut
import Derived.ShutString
import Derived.ChangeOld
import Derived.Below
import Derived.SizedLaws
import Derived.Lib.SmallJoins
import Derived.Test.YtnhiehpbkimaeaaGreatMats
namespace Go.Proofs.YtnhiehpbkimaeaaGreat.fnExactQuotientOf
open Go.ChangeShapes Go.WideShapes Go.ChangeAt Go.RowKit Go.Joins
open Go.ChangeMaps (open_string shut_string)
set_option linter.unusedVariables false
set_option linter.unusedSimpArgs false
theorem own : ownKnob Tryz.prog.godebug = none := by kernel_rfl
theorem laidOut : laidOutB Tryz.prog = true := by kernel_rfl
set_option maxRecDepth 100000 in
theorem lifted (os : Os) (started : os.Started) (H : Type) (enc : TypeId × Value → H) :
    ReturnsInHanded {} Tryz.checked os 3 .any (Rows.fnExactQuotientOfSpec.pre6 enc Tryz.prog Tryz.f3 Rows.fnExactQuotientOfRow.domain false) (Rows.fnExactQuotientOfSpec.post enc Tryz.prog Tryz.f3 false true false false) := by
  refine returnsInHanded_of_change_sized (C := Tryz.checked) own started (by kernel_rfl) Tryz.func3
    (ChangeSpec.witness6 (enc := enc) (C := Tryz.checked) false ⟨#[], #[.int .i64 0, .slice none 0 0, .int .i64 0], []⟩ 8 (by kernel_rfl) (by kernel_rfl) (by kernel_rfl) (by kernel_rfl)) ?_
  intro W base args ds gs before hval0 hW hcnd hsz0 _
  have hval : ∀ (j : Nat) t v, Tryz.f3.params[j]? = some t → args[j]? = some v → Value.okWide Tryz.prog W .any base t v := hval0
  have hW' := hW
  obtain ⟨p, q, hA0, hV, rfl, hfz, hnd⟩ := hW
  have hA : DataW.TrodAll enc Tryz.prog W 0 (fun _ => true) true Tryz.f3.params.toList args.toList ds p := hA0
  rw [Tryz.params3] at hA hval
  obtain ⟨v0, vs0, d0, ds0, p0, q0, hargs, rfl, rfl, h0, r0⟩ := trodAll_cons hA
  obtain ⟨v1, vs1, d1, ds1, p1, q1, rfl, rfl, rfl, h1, r1⟩ := trodAll_cons r0
  obtain ⟨v2, vs2, d2, ds2, p2, q2, rfl, rfl, rfl, h2, r2⟩ := trodAll_cons r1
  obtain ⟨rfl, rfl, rfl⟩ := trodAll_nil r2
  obtain rfl : args = #[v0, v1, v2] := by cases args; simp_all
  obtain ⟨rfl, rfl⟩ := trodVars_none hV
  obtain ⟨a0, rfl, rfl, rfl, w0⟩ := open_int Tryz.underlying2 (hval 0 2 v0 rfl rfl) h0
  obtain ⟨A1, n1, c1, rfl⟩ := okWide_slice Tryz.underlying22 (hval 1 22 v1 rfl rfl)
  have kk1 := h1
  have lt1 : ∀ x ∈ p1, x.block < W.heap.size := by obtain ⟨m, hm⟩ := kk1; exact DataW.trod_lt m _ _ _ hm
  obtain ⟨fu1, hf1⟩ := h1
  obtain ⟨hl1, hm1, zs1, hz1, hq1, _⟩ := Mats.open_mats Tryz.underlying22 Tryz.underlying58 Tryz.underlying57 Tryz.underlying2 (show Tryz.prog.cellsOf 58 = 4 by kernel_rfl) (show Tryz.prog.cellsOf 57 = 2 by kernel_rfl) (show Tryz.prog.cellsOf 2 = 1 by kernel_rfl) (by simpa [Value.cells] using hf1)
  obtain ⟨l1, rfl, hr1⟩ : ∃ l : List PAll.S58, l.length = n1 ∧ Go.Proofs.YtnhiehpbkimaeaaGreatW.PrintWords.Kd.C PAll.k58 W A1 n1 l := by
    refine ⟨zs1.map fun p => ⟨⟨p.1, p.2.1⟩, ⟨p.2.2.1, p.2.2.2⟩⟩, by simpa using hz1, by simpa using hz1, by unfold maxLen at hm1; omega, fun h0 => ?_⟩
    obtain ⟨ad, e, hc⟩ := hq1 h0
    refine ⟨ad, e, fun j p hj => ?_⟩
    rw [List.getElem?_map] at hj
    obtain ⟨q, hq, rfl⟩ := Option.map_eq_some_iff.mp hj
    exact ⟨_, rfl, PAll.k58_mk W _, fun i u hi => hc j q hq i u hi⟩
  have lm1 : l1.length ≤ 9223372036854775807 := by unfold maxLen at hm1; omega
  obtain ⟨a2, rfl, rfl, rfl, w2⟩ := open_int Tryz.underlying2 (hval 2 2 v2 rfl rfl) h2
  clear hA0 hval0 hsz0
  simp only [List.append_nil, List.nil_append] at hW'
  obtain ⟨k, hk⟩ := Pure.FnExactQuotientOf a0 l1 a2 w0 lm1 w2
  refine (PAll.laws_FnExactQuotientOf.calls k a0 A1 c1 l1 a2 true W hr1 hl1 hk).mono fun e W' ⟨he, bel⟩ => ?_
  subst he
  exact ⟨_, rfl, _, _, _, [], _, [], hW', trodAll_mk1 (shut_bool Tryz.underlying4 _), (trodAll_cons_mk (shut_int Tryz.underlying2 w0) (trodAll_cons_mk (Below.trod laidOut (by kernel_rfl) (of_decide_eq_true (by kernel_rfl)) kk1 bel lt1) (trodAll_cons_mk (shut_int Tryz.underlying2 w2) trodAll_mk0))), rfl, bel.frame _, fun h => by cases h⟩
theorem over : Rows.fnExactQuotientOfRow.holds Tryz.pinned (OpenSpec.ofChange Rows.fnExactQuotientOfSpec) :=
  OpenClaim.holds_of_wide 3 Tryz.f3 rfl rfl rfl rfl rfl rfl rfl ⟨rfl, rfl, rfl, rfl, rfl⟩ rfl rfl rfl rfl rfl (by kernel_rfl) Tryz.func3 (by kernel_rfl)
    (of_decide_eq_true (by kernel_rfl)) (by unfold Func.isWrapper; first | (rw [if_pos (by decide +kernel)]; kernel_rfl) | (rw [if_neg (by decide +kernel)]; exact ⟨rfl, rfl⟩))
    (fun os started H enc _ => lifted os started H enc)
theorem proved : Rows.FnExactQuotientOfSaid := over
#print axioms proved
end Go.Proofs.YtnhiehpbkimaeaaGreat.fnExactQuotientOf
namespace Go.Proofs.YtnhiehpbkimaeaaGreat
/-- The row, under a short name, for the claim. -/
theorem fnExactQuotientOf_holds : Rows.FnExactQuotientOfSaid := fnExactQuotientOf.proved
end Go.Proofs.YtnhiehpbkimaeaaGreat
