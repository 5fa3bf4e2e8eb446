/- FnExactOrbitIn: the row of the law over its contract. -/
import Derived.Test.YtccpccnnbacgjaaRows
import Derived.Test.YtccpccnnbacgjaaQLFnExactOrbitIn
import Derived.Test.YtccpccnnbacgjaaPureFnExactOrbitIn
import Derived.WalkKit
import Derived.ProofKit
import Derived.OpenShut
import Derived.ShutString
import Derived.ChangeOld
import Derived.Below
import Derived.SizedLaws
import Derived.Lib.SmallJoins
import Derived.Test.YtccpccnnbacgjaaMats
namespace Go.Proofs.Ytccpccnnbacgjaa.fnExactOrbitIn
open Go.ChangeShapes Go.WideShapes Go.ChangeAt Go.RowKit Go.Joins
open Go.ChangeMaps (open_string shut_string)
set_option linter.unusedVariables false
set_option linter.unusedSimpArgs false
theorem own : ownKnob Try.prog.godebug = none := by kernel_rfl
theorem laidOut : laidOutB Try.prog = true := by kernel_rfl
set_option maxRecDepth 100000 in
theorem lifted (os : Os) (started : os.Started) (H : Type) (enc : TypeId × Value → H) :
    ReturnsInHanded {} Try.checked os 8 .any (Rows.fnExactOrbitInSpec.pre6 enc Try.prog Try.f8 Rows.fnExactOrbitInRow.domain false) (Rows.fnExactOrbitInSpec.post enc Try.prog Try.f8 false true false false) := by
  refine returnsInHanded_of_change_sized (C := Try.checked) own started (by kernel_rfl) Try.func8
    (ChangeSpec.witness6 (enc := enc) (C := Try.checked) false ⟨#[], #[.int .i64 0, .slice none 0 0, .agg #[.int .i64 0, .int .i64 0, .int .i64 0], .int .i64 0], []⟩ 8 (by kernel_rfl) (by kernel_rfl) (by kernel_rfl) (by kernel_rfl)) ?_
  intro W base args ds gs before hval0 hW hcnd hsz0 _
  have hval : ∀ (j : Nat) t v, Try.f8.params[j]? = some t → args[j]? = some v → Value.okWide Try.prog W .any base t v := hval0
  have hW' := hW
  obtain ⟨p, q, hA0, hV, rfl, hfz, hnd⟩ := hW
  have hA : DataW.TrodAll enc Try.prog W 0 (fun _ => true) true Try.f8.params.toList args.toList ds p := hA0
  rw [Try.params8] at hA hval
  obtain ⟨v0, vs0, d0, ds0, p0, q0, hargs, rfl, rfl, h0, r0⟩ := trodAll_cons hA
  obtain ⟨v1, vs1, d1, ds1, p1, q1, rfl, rfl, rfl, h1, r1⟩ := trodAll_cons r0
  obtain ⟨v2, vs2, d2, ds2, p2, q2, rfl, rfl, rfl, h2, r2⟩ := trodAll_cons r1
  obtain ⟨v3, vs3, d3, ds3, p3, q3, rfl, rfl, rfl, h3, r3⟩ := trodAll_cons r2
  obtain ⟨rfl, rfl, rfl⟩ := trodAll_nil r3
  obtain rfl : args = #[v0, v1, v2, v3] := by cases args; simp_all
  obtain ⟨rfl, rfl⟩ := trodVars_none hV
  obtain ⟨a0, rfl, rfl, rfl, w0⟩ := open_int Try.underlying2 (hval 0 2 v0 rfl rfl) h0
  obtain ⟨A1, n1, c1, rfl⟩ := okWide_slice Try.underlying62 (hval 1 62 v1 rfl rfl)
  have kk1 := h1
  have lt1 : ∀ x ∈ p1, x.block < W.heap.size := by obtain ⟨m, hm⟩ := kk1; exact DataW.trod_lt m _ _ _ hm
  obtain ⟨fu1, hf1⟩ := h1
  obtain ⟨hl1, hm1, zs1, hz1, hq1, _⟩ := Mats.open_mats Try.underlying62 Try.underlying23 Try.underlying22 Try.underlying2 (show Try.prog.cellsOf 23 = 4 by kernel_rfl) (show Try.prog.cellsOf 22 = 2 by kernel_rfl) (show Try.prog.cellsOf 2 = 1 by kernel_rfl) (by simpa [Value.cells] using hf1)
  obtain ⟨l1, rfl, hr1⟩ : ∃ l : List PAll.S23, l.length = n1 ∧ Go.Proofs.YtccpccnnbacgjaaW.PrintWords.Kd.C PAll.k23 W A1 n1 l := by
    refine ⟨zs1.map fun p => ⟨⟨p.1, p.2.1⟩, ⟨p.2.2.1, p.2.2.2⟩⟩, by simpa using hz1, by simpa using hz1, by unfold maxLen at hm1; omega, fun h0 => ?_⟩
    obtain ⟨ad, e, hc⟩ := hq1 h0
    refine ⟨ad, e, fun j p hj => ?_⟩
    rw [List.getElem?_map] at hj
    obtain ⟨q, hq, rfl⟩ := Option.map_eq_some_iff.mp hj
    exact ⟨_, rfl, PAll.k23_mk W _, fun i u hi => hc j q hq i u hi⟩
  have lm1 : l1.length ≤ 9223372036854775807 := by unfold maxLen at hm1; omega
  obtain ⟨c2_0, c2_1, c2_2, y2_0, y2_1, y2_2, m2, rfl, rfl, rfl, r2_0, r2_1, r2_2⟩ := open_agg3 Try.underlying35 (by kernel_rfl) (show Try.prog.cellsOf 35 = 3 by kernel_rfl) (hval 2 35 v2 rfl rfl) h2
  obtain ⟨a2_0, e2_0, rfl, w2_0⟩ := DataW.trod_int Try.underlying2 r2_0
  obtain ⟨a2_1, e2_1, rfl, w2_1⟩ := DataW.trod_int Try.underlying2 r2_1
  obtain ⟨a2_2, e2_2, rfl, w2_2⟩ := DataW.trod_int Try.underlying2 r2_2
  simp at e2_0 e2_1 e2_2
  subst e2_0 e2_1 e2_2
  obtain ⟨a3, rfl, rfl, rfl, w3⟩ := open_int Try.underlying2 (hval 3 2 v3 rfl rfl) h3
  clear hA0 hval0 hsz0
  simp only [List.append_nil, List.nil_append] at hW'
  have s2 : ∀ (W' : World) (sp : Nat → Bool), DataW.Trod enc Try.prog W' 0 sp true 35 (.agg #[.int .i64 a2_0, .int .i64 a2_1, .int .i64 a2_2]) (.agg [.lit (.int .i64 a2_0), .lit (.int .i64 a2_1), .lit (.int .i64 a2_2)]) [] := fun W' sp =>
    shut_agg3 (y0 := (.lit (.int .i64 a2_0), [])) (y1 := (.lit (.int .i64 a2_1), [])) (y2 := (.lit (.int .i64 a2_2), [])) Try.underlying35 (by kernel_rfl) (show Try.prog.cellsOf 35 = 3 by kernel_rfl) ⟨1, by simp [DataW.trod, Try.underlying2, w2_0]⟩ ⟨1, by simp [DataW.trod, Try.underlying2, w2_1]⟩ ⟨1, by simp [DataW.trod, Try.underlying2, w2_2]⟩
  obtain ⟨k, hk⟩ := Pure.FnExactOrbitIn a0 l1 a2_0 a2_1 a2_2 a3 w0 lm1 w2_0 w2_1 w2_2 w3
  refine (PAll.laws_FnExactOrbitIn.calls k a0 A1 c1 l1 a2_0 a2_1 a2_2 a3 true W hr1 hl1 hk).mono fun e W' ⟨he, bel⟩ => ?_
  subst he
  exact ⟨_, rfl, _, _, _, [], _, [], hW', trodAll_mk1 (shut_bool Try.underlying4 _), (trodAll_cons_mk (shut_int Try.underlying2 w0) (trodAll_cons_mk (Below.trod laidOut (by kernel_rfl) (of_decide_eq_true (by kernel_rfl)) kk1 bel lt1) (trodAll_cons_mk (s2 _ _) (trodAll_cons_mk (shut_int Try.underlying2 w3) trodAll_mk0)))), rfl, bel.frame _, fun h => by cases h⟩
theorem over : Rows.fnExactOrbitInRow.holds Try.pinned (OpenSpec.ofChange Rows.fnExactOrbitInSpec) :=
  OpenClaim.holds_of_wide 8 Try.f8 rfl rfl rfl rfl rfl rfl rfl ⟨rfl, rfl, rfl, rfl, rfl⟩ rfl rfl rfl rfl rfl (by kernel_rfl) Try.func8 (by kernel_rfl)
    (of_decide_eq_true (by kernel_rfl)) (by unfold Func.isWrapper; first | (rw [if_pos (by decide +kernel)]; kernel_rfl) | (rw [if_neg (by decide +kernel)]; exact ⟨rfl, rfl⟩))
    (fun os started H enc _ => lifted os started H enc)
theorem proved : Rows.FnExactOrbitInSaid := over
#print axioms proved
end Go.Proofs.Ytccpccnnbacgjaa.fnExactOrbitIn
namespace Go.Proofs.Ytccpccnnbacgjaa
/-- The row, under a short name, for the claim. -/
theorem fnExactOrbitIn_holds : Rows.FnExactOrbitInSaid := fnExactOrbitIn.proved
end Go.Proofs.Ytccpccnnbacgjaa
