-- turned for this claim out of the kit's print: the same functions, packed anew
import Derived.Test.YtmhajnfdbjnegaaQx
import Derived.Test.YtmhajnfdbjnegaaQimplIsMatrix
import Derived.Test.YtmhajnfdbjnegaaQimpllengthOf
import Derived.Test.YtmhajnfdbjnegaaQspecl01Code
import Derived.Test.YtmhajnfdbjnegaaQspecl04Code
namespace Go.Proofs.Ytmhajnfdbjnegaa.PAll
open Go.RowKit Go.Proofs.YtmhajnfdbjnegaaW.PrintWords Go.Proofs.YtmhajnfdbjnegaaW.PrintLast Go.Proofs.YtmhajnfdbjnegaaW.PrintMore
attribute [local go_sem] Go.Proofs.Ytmhajnfdbjnegaa.Aux.setCell_drewN Go.Proofs.Ytmhajnfdbjnegaa.Aux.isSome_setCell max2_int min2_int max_two min_two max_three min_three max_four min_four   -- for this text's walks alone
set_option linter.unusedVariables false
set_option linter.unusedSimpArgs false
/-! ### impl_LengthOf: function 28 -/
def impl_LengthOf.f (k : Nat) (a0 : Int) (a1_0 : Int) (a1_1 : Int) (a1_2 : Int) (a1_3 : Int) : Option (Int × Int) := (impl_isPrime.f a0).bind fun t342 => (if t342 = true then ((impl_IsMatrix.f k a1_0 a1_1 a1_2 a1_3).bind fun t343 => (if t343 = true then ((impl_lengthOf.f k a0 a1_0 a1_1 a1_2 a1_3).bind fun bt344 => (some (bt344.1, 0))) else (some (0, 1)))) else (some (0, 1)))
theorem impl_LengthOf.mono : ∀ a0 a1 a2 a3 a4 k, LeO (impl_LengthOf.f k a0 a1 a2 a3 a4) (impl_LengthOf.f (k + 1) a0 a1 a2 a3 a4) := by
  intro a0 a1 a2 a3 a4 k
  unfold impl_LengthOf.f
  repeat' first
      | (with_reducible exact impl_IsMatrix.mono _ _ _ _ _)
      | (with_reducible exact impl_lengthOf.mono _ _ _ _ _ _)
      | (with_reducible exact LeO.refl _)
      | (with_reducible exact LeO.none _)
      | (with_reducible refine LeO.ite ?_ ?_)
      | (with_reducible refine LeO.bind ?_ (fun _ => ?_))
      | exact impl_IsMatrix.mono _ _ _ _ _
      | exact impl_lengthOf.mono _ _ _ _ _ _
      | exact LeO.none _
      | refine LeO.ite ?_ ?_
      | refine LeO.bind ?_ (fun _ => ?_)
set_option maxHeartbeats 8000000 in
set_option maxRecDepth 100000 in
theorem impl_LengthOf.calls (k : Nat) (a0 : Int) (a1_0 : Int) (a1_1 : Int) (a1_2 : Int) (a1_3 : Int) (r1 : Int) (r2 : Int) (w : World) (h : impl_LengthOf.f k a0 a1_0 a1_1 a1_2 a1_3 = some (r1, r2)) :
    Calls Try.prog 28 #[.int .i64 a0, .agg #[.int .i64 a1_0, .int .i64 a1_1, .int .i64 a1_2, .int .i64 a1_3]] w fun e w' => e = .returned (.tuple #[.int .i64 r1, .int .i64 r2]) ∧ Below w.heap.size w w' := by
  have hu25 := Try.underlying25
  have HB := Aside0.mk (Below.refl w.heap.size w)
  have H : ((impl_isPrime.f a0).bind fun t342 => (if t342 = true then ((impl_IsMatrix.f k a1_0 a1_1 a1_2 a1_3).bind fun t343 => (if t343 = true then ((impl_lengthOf.f k a0 a1_0 a1_1 a1_2 a1_3).bind fun bt344 => (some (bt344.1, 0))) else (some (0, 1)))) else (some (0, 1)))) = some (r1, r2) := h
  clear h
  replace H := Option.bind_eq_some_iff.mp H
  obtain ⟨t342, A30, H⟩ := H
  replace H : (if t342 = true then ((impl_IsMatrix.f k a1_0 a1_1 a1_2 a1_3).bind fun t343 => (if t343 = true then ((impl_lengthOf.f k a0 a1_0 a1_1 a1_2 a1_3).bind fun bt344 => (some (bt344.1, 0))) else (some (0, 1)))) else (some (0, 1))) = some (r1, r2) := H
  have A3 := Aside0.mk A30
  clear A30
  by_cases c4 : t342 = true
  · subst c4
    have H1 : ((impl_IsMatrix.f k a1_0 a1_1 a1_2 a1_3).bind fun t343 => (if t343 = true then ((impl_lengthOf.f k a0 a1_0 a1_1 a1_2 a1_3).bind fun bt344 => (some (bt344.1, 0))) else (some (0, 1)))) = some (r1, r2) := by rw [if_pos rfl] at H; exact H
    clear H
    have H := H1
    clear H1
    replace H := Option.bind_eq_some_iff.mp H
    obtain ⟨t343, A50, H⟩ := H
    replace H : (if t343 = true then ((impl_lengthOf.f k a0 a1_0 a1_1 a1_2 a1_3).bind fun bt344 => (some (bt344.1, 0))) else (some (0, 1))) = some (r1, r2) := H
    have A5 := Aside0.mk A50
    clear A50
    by_cases c6 : t343 = true
    · subst c6
      have H1 : ((impl_lengthOf.f k a0 a1_0 a1_1 a1_2 a1_3).bind fun bt344 => (some (bt344.1, 0))) = some (r1, r2) := by rw [if_pos rfl] at H; exact H
      clear H
      have H := H1
      clear H1
      replace H := Option.bind_eq_some_iff.mp H
      obtain ⟨⟨t344, t345⟩, A70, H⟩ := H
      replace H : (some (t344, 0)) = some (r1, r2) := H
      have A7 := Aside0.mk A70
      clear A70
      simp only [Option.some.injEq, Prod.mk.injEq] at H
      obtain ⟨rfl, rfl⟩ := H
      go_enter Try.func28, Try.ntmps28
      go_wp2_with (first | ((with_reducible refine gate_dst (N := 3) rfl ?_); refine box_event ?hg (N := 3) ?hd (cs := #[.int .i64 a1_0, .int .i64 a1_1, .int .i64 a1_2, .int .i64 a1_3]) (t := 25) ?hr ?_; (case hd => rfl); (case hg => rfl); (case hr => first | (go_simp; done) | (go_simp; rfl)); intro gb341 hg w8 hbox hb; have n0_ := Aside0.mk (below_step blA hb); have n1_ := Aside0.mk (hbox); have n2_ := Aside0.mk (szA hg blA); have n3_ := Aside0.mk (szA hg blA); clear HB; have HB := n0_; have BK341 := n1_; have GW341 := n2_; have GE341 := n3_; clear n0_ n1_ n2_ n3_; clear hb hbox hg) | ((with_reducible refine gate_callee (f := 64) rfl ?_); refine goesL_ (some 9) rfl rfl Try.func64 (by kernel_rfl) rfl #[.int .i64 a0] rfl (by (try simp only [List.map_toArray, List.map_cons, List.map_nil]); first | done | rfl | (simp only [List.length_drop, List.length_take]; rfl)) ?_; (with_reducible refine (impl_isPrime.calls a0 true _ A3.out).mono ?_); rintro e w' ⟨rfl, ⟨nd, rfl⟩⟩; refine ⟨_, rfl, ?_⟩; have hcz9_0 : w8.cell? ⟨gb341, 0, none⟩ = some (.int .i64 a1_0) := (blk_cell BK341.out 0).trans rfl; have hcz9_1 : w8.cell? ⟨gb341, 1, none⟩ = some (.int .i64 a1_1) := (blk_cell BK341.out 1).trans rfl; have hcz9_2 : w8.cell? ⟨gb341, 2, none⟩ = some (.int .i64 a1_2) := (blk_cell BK341.out 2).trans rfl; have hcz9_3 : w8.cell? ⟨gb341, 3, none⟩ = some (.int .i64 a1_3) := (blk_cell BK341.out 3).trans rfl; have hfz9_0 := blk_frozen BK341.out 0; have hfz9_1 := blk_frozen BK341.out 1; have hfz9_2 := blk_frozen BK341.out 2; have hfz9_3 := blk_frozen BK341.out 3) | (go_at_call 17; (with_reducible refine (impl_IsMatrix.calls k a1_0 a1_1 a1_2 a1_3 true _ A5.out).mono ?_); rintro e w10 ⟨rfl, hb⟩; have n0_ := Aside0.mk (blk_below (bkA BK341) hb); have n1_ := Aside0.mk (below_step blA hb); clear BK341; clear HB; have BK341 := n0_; have HB := n1_; clear n0_ n1_; (try clear hb); (try clear hb2); (try clear hk); (try clear hi); have hcz11_0 : w10.cell? ⟨gb341, 0, none⟩ = some (.int .i64 a1_0) := (blk_cell BK341.out 0).trans rfl; have hcz11_1 : w10.cell? ⟨gb341, 1, none⟩ = some (.int .i64 a1_1) := (blk_cell BK341.out 1).trans rfl; have hcz11_2 : w10.cell? ⟨gb341, 2, none⟩ = some (.int .i64 a1_2) := (blk_cell BK341.out 2).trans rfl; have hcz11_3 : w10.cell? ⟨gb341, 3, none⟩ = some (.int .i64 a1_3) := (blk_cell BK341.out 3).trans rfl; have hfz11_0 := blk_frozen BK341.out 0; have hfz11_1 := blk_frozen BK341.out 1; have hfz11_2 := blk_frozen BK341.out 2; have hfz11_3 := blk_frozen BK341.out 3) | ((with_reducible refine gate_callee (f := 65) rfl ?_); refine goesL_ (some 19) rfl rfl Try.func65 (by kernel_rfl) rfl #[.int .i64 a0, .agg #[.int .i64 a1_0, .int .i64 a1_1, .int .i64 a1_2, .int .i64 a1_3]] rfl (by (try simp only [List.map_toArray, List.map_cons, List.map_nil]); first | done | rfl | (simp only [List.length_drop, List.length_take]; rfl)) ?_; (with_reducible refine (impl_lengthOf.calls k a0 a1_0 a1_1 a1_2 a1_3 t344 t345 _ A7.out).mono ?_); rintro e w12 ⟨rfl, hb⟩; refine ⟨_, rfl, ?_⟩; have n0_ := Aside0.mk (blk_below (bkA BK341) hb); have n1_ := Aside0.mk (below_step blA hb); clear BK341; clear HB; have BK341 := n0_; have HB := n1_; clear n0_ n1_; (try clear hb); (try clear hb2); (try clear hk); (try clear hi)))
      go_ret2
      exact ⟨by first | rfl | (simp [errW_none, errW_some] <;> rfl) | (simp [*, errW_none, errW_some] <;> rfl), blA⟩
    · replace c6 := Bool.eq_false_iff.mpr c6
      subst c6
      have H1 : (some (0, 1)) = some (r1, r2) := by rw [if_neg (show ¬ (false = true) by decide)] at H; exact H
      clear H
      have H := H1
      clear H1
      simp only [Option.some.injEq, Prod.mk.injEq] at H
      obtain ⟨rfl, rfl⟩ := H
      go_enter Try.func28, Try.ntmps28
      go_wp2_with (first | ((with_reducible refine gate_dst (N := 3) rfl ?_); refine box_event ?hg (N := 3) ?hd (cs := #[.int .i64 a1_0, .int .i64 a1_1, .int .i64 a1_2, .int .i64 a1_3]) (t := 25) ?hr ?_; (case hd => rfl); (case hg => rfl); (case hr => first | (go_simp; done) | (go_simp; rfl)); intro gb341 hg w13 hbox hb; have n0_ := Aside0.mk (below_step blA hb); have n1_ := Aside0.mk (hbox); have n2_ := Aside0.mk (szA hg blA); have n3_ := Aside0.mk (szA hg blA); clear HB; have HB := n0_; have BK341 := n1_; have GW341 := n2_; have GE341 := n3_; clear n0_ n1_ n2_ n3_; clear hb hbox hg) | ((with_reducible refine gate_callee (f := 64) rfl ?_); refine goesL_ (some 9) rfl rfl Try.func64 (by kernel_rfl) rfl #[.int .i64 a0] rfl (by (try simp only [List.map_toArray, List.map_cons, List.map_nil]); first | done | rfl | (simp only [List.length_drop, List.length_take]; rfl)) ?_; (with_reducible refine (impl_isPrime.calls a0 true _ A3.out).mono ?_); rintro e w' ⟨rfl, ⟨nd, rfl⟩⟩; refine ⟨_, rfl, ?_⟩; have hcz14_0 : w13.cell? ⟨gb341, 0, none⟩ = some (.int .i64 a1_0) := (blk_cell BK341.out 0).trans rfl; have hcz14_1 : w13.cell? ⟨gb341, 1, none⟩ = some (.int .i64 a1_1) := (blk_cell BK341.out 1).trans rfl; have hcz14_2 : w13.cell? ⟨gb341, 2, none⟩ = some (.int .i64 a1_2) := (blk_cell BK341.out 2).trans rfl; have hcz14_3 : w13.cell? ⟨gb341, 3, none⟩ = some (.int .i64 a1_3) := (blk_cell BK341.out 3).trans rfl; have hfz14_0 := blk_frozen BK341.out 0; have hfz14_1 := blk_frozen BK341.out 1; have hfz14_2 := blk_frozen BK341.out 2; have hfz14_3 := blk_frozen BK341.out 3) | (go_at_call 17; (with_reducible refine (impl_IsMatrix.calls k a1_0 a1_1 a1_2 a1_3 false _ A5.out).mono ?_); rintro e w15 ⟨rfl, hb⟩; have n0_ := Aside0.mk (blk_below (bkA BK341) hb); have n1_ := Aside0.mk (below_step blA hb); clear BK341; clear HB; have BK341 := n0_; have HB := n1_; clear n0_ n1_; (try clear hb); (try clear hb2); (try clear hk); (try clear hi)))
      go_ret2
      exact ⟨by first | rfl | (simp [errW_none, errW_some] <;> rfl) | (simp [*, errW_none, errW_some] <;> rfl), blA⟩
  · replace c4 := Bool.eq_false_iff.mpr c4
    subst c4
    have H1 : (some (0, 1)) = some (r1, r2) := by rw [if_neg (show ¬ (false = true) by decide)] at H; exact H
    clear H
    have H := H1
    clear H1
    simp only [Option.some.injEq, Prod.mk.injEq] at H
    obtain ⟨rfl, rfl⟩ := H
    go_enter Try.func28, Try.ntmps28
    go_wp2_with (first | ((with_reducible refine gate_dst (N := 3) rfl ?_); refine box_event ?hg (N := 3) ?hd (cs := #[.int .i64 a1_0, .int .i64 a1_1, .int .i64 a1_2, .int .i64 a1_3]) (t := 25) ?hr ?_; (case hd => rfl); (case hg => rfl); (case hr => first | (go_simp; done) | (go_simp; rfl)); intro gb341 hg w16 hbox hb; have n0_ := Aside0.mk (below_step blA hb); have n1_ := Aside0.mk (hbox); have n2_ := Aside0.mk (szA hg blA); have n3_ := Aside0.mk (szA hg blA); clear HB; have HB := n0_; have BK341 := n1_; have GW341 := n2_; have GE341 := n3_; clear n0_ n1_ n2_ n3_; clear hb hbox hg) | ((with_reducible refine gate_callee (f := 64) rfl ?_); refine goesL_ (some 9) rfl rfl Try.func64 (by kernel_rfl) rfl #[.int .i64 a0] rfl (by (try simp only [List.map_toArray, List.map_cons, List.map_nil]); first | done | rfl | (simp only [List.length_drop, List.length_take]; rfl)) ?_; (with_reducible refine (impl_isPrime.calls a0 false _ A3.out).mono ?_); rintro e w' ⟨rfl, ⟨nd, rfl⟩⟩; refine ⟨_, rfl, ?_⟩))
    go_ret2
    exact ⟨by first | rfl | (simp [errW_none, errW_some] <;> rfl) | (simp [*, errW_none, errW_some] <;> rfl), blA⟩
/-! ### spec_LengthOf: function 27 -/
def spec_LengthOf.f (k : Nat) (a0 : Int) (a1_0 : Int) (a1_1 : Int) (a1_2 : Int) (a1_3 : Int) : Option (Int × Int) := (spec_l04Code.f k a0 a1_0 a1_1 a1_2 a1_3 ([] : List (S55))).bind fun t338 => (if t338 = 0 then ((spec_l04Kind.f k a0 a1_0 a1_1 a1_2 a1_3).bind fun bt339 => (some (bt339.2, 0))) else (some (0, t338)))
theorem spec_LengthOf.mono : ∀ a0 a1 a2 a3 a4 k, LeO (spec_LengthOf.f k a0 a1 a2 a3 a4) (spec_LengthOf.f (k + 1) a0 a1 a2 a3 a4) := by
  intro a0 a1 a2 a3 a4 k
  unfold spec_LengthOf.f
  repeat' first
      | (with_reducible exact spec_l04Code.mono _ _ _ _ _ _ _)
      | (with_reducible exact spec_l04Kind.mono _ _ _ _ _ _)
      | (with_reducible exact LeO.refl _)
      | (with_reducible exact LeO.none _)
      | (with_reducible refine LeO.ite ?_ ?_)
      | (with_reducible refine LeO.bind ?_ (fun _ => ?_))
      | exact spec_l04Code.mono _ _ _ _ _ _ _
      | exact spec_l04Kind.mono _ _ _ _ _ _
      | exact LeO.none _
      | refine LeO.ite ?_ ?_
      | refine LeO.bind ?_ (fun _ => ?_)
set_option maxHeartbeats 8000000 in
set_option maxRecDepth 100000 in
theorem spec_LengthOf.calls (k : Nat) (a0 : Int) (a1_0 : Int) (a1_1 : Int) (a1_2 : Int) (a1_3 : Int) (r1 : Int) (r2 : Int) (w : World) (h : spec_LengthOf.f k a0 a1_0 a1_1 a1_2 a1_3 = some (r1, r2)) :
    Calls Try.prog 27 #[.int .i64 a0, .agg #[.int .i64 a1_0, .int .i64 a1_1, .int .i64 a1_2, .int .i64 a1_3]] w fun e w' => e = .returned (.tuple #[.int .i64 r1, .int .i64 r2]) ∧ Below w.heap.size w w' := by
  have hu25 := Try.underlying25
  have HB := Aside0.mk (Below.refl w.heap.size w)
  have H : ((spec_l04Code.f k a0 a1_0 a1_1 a1_2 a1_3 ([] : List (S55))).bind fun t338 => (if t338 = 0 then ((spec_l04Kind.f k a0 a1_0 a1_1 a1_2 a1_3).bind fun bt339 => (some (bt339.2, 0))) else (some (0, t338)))) = some (r1, r2) := h
  clear h
  replace H := Option.bind_eq_some_iff.mp H
  obtain ⟨t338, A30, H⟩ := H
  replace H : (if t338 = 0 then ((spec_l04Kind.f k a0 a1_0 a1_1 a1_2 a1_3).bind fun bt339 => (some (bt339.2, 0))) else (some (0, t338))) = some (r1, r2) := H
  have A3 := Aside0.mk A30
  clear A30
  by_cases c4 : t338 = 0
  · rw [if_pos c4] at H
    have c4b0 : (t338 == 0) = true := beq_iff_eq.mpr c4
    have c4b1 : (t338 != 0) = false := bne_eq_false_iff_eq.mpr c4
    clear c4
    replace H := Option.bind_eq_some_iff.mp H
    obtain ⟨⟨t339, t340⟩, A50, H⟩ := H
    replace H : (some (t340, 0)) = some (r1, r2) := H
    have A5 := Aside0.mk A50
    clear A50
    simp only [Option.some.injEq, Prod.mk.injEq] at H
    obtain ⟨rfl, rfl⟩ := H
    go_enter Try.func27, Try.ntmps27
    go_wp2_with (first | ((with_reducible refine gate_dst (N := 3) rfl ?_); refine box_event ?hg (N := 3) ?hd (cs := #[.int .i64 a1_0, .int .i64 a1_1, .int .i64 a1_2, .int .i64 a1_3]) (t := 25) ?hr ?_; (case hd => rfl); (case hg => rfl); (case hr => first | (go_simp; done) | (go_simp; rfl)); intro gb337 hg w6 hbox hb; have n0_ := Aside0.mk (below_step blA hb); have n1_ := Aside0.mk (hbox); have n2_ := Aside0.mk (szA hg blA); have n3_ := Aside0.mk (szA hg blA); clear HB; have HB := n0_; have BK337 := n1_; have GW337 := n2_; have GE337 := n3_; clear n0_ n1_ n2_ n3_; clear hb hbox hg; have hcz7_0 : w6.cell? ⟨gb337, 0, none⟩ = some (.int .i64 a1_0) := (blk_cell BK337.out 0).trans rfl; have hcz7_1 : w6.cell? ⟨gb337, 1, none⟩ = some (.int .i64 a1_1) := (blk_cell BK337.out 1).trans rfl; have hcz7_2 : w6.cell? ⟨gb337, 2, none⟩ = some (.int .i64 a1_2) := (blk_cell BK337.out 2).trans rfl; have hcz7_3 : w6.cell? ⟨gb337, 3, none⟩ = some (.int .i64 a1_3) := (blk_cell BK337.out 3).trans rfl; have hfz7_0 := blk_frozen BK337.out 0; have hfz7_1 := blk_frozen BK337.out 1; have hfz7_2 := blk_frozen BK337.out 2; have hfz7_3 := blk_frozen BK337.out 3) | ((with_reducible refine gate_callee (f := 62) rfl ?_); refine goesL_ (some 11) rfl rfl Try.func62 (by kernel_rfl) rfl #[.int .i64 a0, .agg #[.int .i64 a1_0, .int .i64 a1_1, .int .i64 a1_2, .int .i64 a1_3], .slice none 0 0] rfl (by (try simp only [List.map_toArray, List.map_cons, List.map_nil]); first | done | rfl | (simp only [List.length_drop, List.length_take]; rfl)) ?_; (refine (spec_l04Code.calls k a0 a1_0 a1_1 a1_2 a1_3 _ _ ([] : List (S55)) t338 _ ?side1 ?side2 A3.out).mono ?_); (case side1 => exact Kd.C_nil _ _); (case side2 => exact Nat.le_refl _); rintro e w8 ⟨rfl, hb⟩; refine ⟨_, rfl, ?_⟩; have n0_ := Aside0.mk (blk_below (bkA BK337) hb); have n1_ := Aside0.mk (below_step blA hb); clear BK337; clear HB; have BK337 := n0_; have HB := n1_; clear n0_ n1_; (try clear hb); (try clear hb2); (try clear hk); (try clear hi); have hcz9_0 : w8.cell? ⟨gb337, 0, none⟩ = some (.int .i64 a1_0) := (blk_cell BK337.out 0).trans rfl; have hcz9_1 : w8.cell? ⟨gb337, 1, none⟩ = some (.int .i64 a1_1) := (blk_cell BK337.out 1).trans rfl; have hcz9_2 : w8.cell? ⟨gb337, 2, none⟩ = some (.int .i64 a1_2) := (blk_cell BK337.out 2).trans rfl; have hcz9_3 : w8.cell? ⟨gb337, 3, none⟩ = some (.int .i64 a1_3) := (blk_cell BK337.out 3).trans rfl; have hfz9_0 := blk_frozen BK337.out 0; have hfz9_1 := blk_frozen BK337.out 1; have hfz9_2 := blk_frozen BK337.out 2; have hfz9_3 := blk_frozen BK337.out 3) | ((with_reducible refine gate_callee (f := 63) rfl ?_); refine goesL_ (some 18) rfl rfl Try.func63 (by kernel_rfl) rfl #[.int .i64 a0, .agg #[.int .i64 a1_0, .int .i64 a1_1, .int .i64 a1_2, .int .i64 a1_3]] rfl (by (try simp only [List.map_toArray, List.map_cons, List.map_nil]); first | done | rfl | (simp only [List.length_drop, List.length_take]; rfl)) ?_; (with_reducible refine (spec_l04Kind.calls k a0 a1_0 a1_1 a1_2 a1_3 t339 t340 _ A5.out).mono ?_); rintro e w10 ⟨rfl, hb⟩; refine ⟨_, rfl, ?_⟩; have n0_ := Aside0.mk (blk_below (bkA BK337) hb); have n1_ := Aside0.mk (below_step blA hb); clear BK337; clear HB; have BK337 := n0_; have HB := n1_; clear n0_ n1_; (try clear hb); (try clear hb2); (try clear hk); (try clear hi)))
    go_ret2
    exact ⟨by first | rfl | (simp [errW_none, errW_some] <;> rfl) | (simp [*, errW_none, errW_some] <;> rfl), blA⟩
  · rw [if_neg c4] at H
    have c4b0 : (t338 == 0) = false := beq_eq_false_iff_ne.mpr c4
    have c4b1 : (t338 != 0) = true := bne_iff_ne.mpr c4
    simp only [Option.some.injEq, Prod.mk.injEq] at H
    obtain ⟨rfl, rfl⟩ := H
    go_enter Try.func27, Try.ntmps27
    go_wp2_with (first | ((with_reducible refine gate_dst (N := 3) rfl ?_); refine box_event ?hg (N := 3) ?hd (cs := #[.int .i64 a1_0, .int .i64 a1_1, .int .i64 a1_2, .int .i64 a1_3]) (t := 25) ?hr ?_; (case hd => rfl); (case hg => rfl); (case hr => first | (go_simp; done) | (go_simp; rfl)); intro gb337 hg w11 hbox hb; have n0_ := Aside0.mk (below_step blA hb); have n1_ := Aside0.mk (hbox); have n2_ := Aside0.mk (szA hg blA); have n3_ := Aside0.mk (szA hg blA); clear HB; have HB := n0_; have BK337 := n1_; have GW337 := n2_; have GE337 := n3_; clear n0_ n1_ n2_ n3_; clear hb hbox hg; have hcz12_0 : w11.cell? ⟨gb337, 0, none⟩ = some (.int .i64 a1_0) := (blk_cell BK337.out 0).trans rfl; have hcz12_1 : w11.cell? ⟨gb337, 1, none⟩ = some (.int .i64 a1_1) := (blk_cell BK337.out 1).trans rfl; have hcz12_2 : w11.cell? ⟨gb337, 2, none⟩ = some (.int .i64 a1_2) := (blk_cell BK337.out 2).trans rfl; have hcz12_3 : w11.cell? ⟨gb337, 3, none⟩ = some (.int .i64 a1_3) := (blk_cell BK337.out 3).trans rfl; have hfz12_0 := blk_frozen BK337.out 0; have hfz12_1 := blk_frozen BK337.out 1; have hfz12_2 := blk_frozen BK337.out 2; have hfz12_3 := blk_frozen BK337.out 3) | ((with_reducible refine gate_callee (f := 62) rfl ?_); refine goesL_ (some 11) rfl rfl Try.func62 (by kernel_rfl) rfl #[.int .i64 a0, .agg #[.int .i64 a1_0, .int .i64 a1_1, .int .i64 a1_2, .int .i64 a1_3], .slice none 0 0] rfl (by (try simp only [List.map_toArray, List.map_cons, List.map_nil]); first | done | rfl | (simp only [List.length_drop, List.length_take]; rfl)) ?_; (refine (spec_l04Code.calls k a0 a1_0 a1_1 a1_2 a1_3 _ _ ([] : List (S55)) t338 _ ?side1 ?side2 A3.out).mono ?_); (case side1 => exact Kd.C_nil _ _); (case side2 => exact Nat.le_refl _); rintro e w13 ⟨rfl, hb⟩; refine ⟨_, rfl, ?_⟩; have n0_ := Aside0.mk (blk_below (bkA BK337) hb); have n1_ := Aside0.mk (below_step blA hb); clear BK337; clear HB; have BK337 := n0_; have HB := n1_; clear n0_ n1_; (try clear hb); (try clear hb2); (try clear hk); (try clear hi)))
    go_ret2
    exact ⟨by first | rfl | (simp [errW_none, errW_some] <;> rfl) | (simp [*, errW_none, errW_some] <;> rfl), blA⟩
/-! ### laws_FnExactLengthOf: function 8 -/
def laws_FnExactLengthOf.f (k : Nat) (a0 : Int) (a1_0 : Int) (a1_1 : Int) (a1_2 : Int) (a1_3 : Int) : Option (Bool) := (laws_toMatrix.f a1_0 a1_1 a1_2 a1_3).bind fun bt347 => ((spec_LengthOf.f k a0 bt347.1 bt347.2.1 bt347.2.2.1 bt347.2.2.2).bind fun bt351 => ((laws_toMatrix.f a1_0 a1_1 a1_2 a1_3).bind fun bt353 => ((impl_LengthOf.f k a0 bt353.1 bt353.2.1 bt353.2.2.1 bt353.2.2.2).bind fun bt357 => (if bt357.1 = bt351.1 then (if bt357.2 = bt351.2 then (some true) else (none)) else (none)))))
theorem laws_FnExactLengthOf.mono : ∀ a0 a1 a2 a3 a4 k, LeO (laws_FnExactLengthOf.f k a0 a1 a2 a3 a4) (laws_FnExactLengthOf.f (k + 1) a0 a1 a2 a3 a4) := by
  intro a0 a1 a2 a3 a4 k
  unfold laws_FnExactLengthOf.f
  repeat' first
      | (with_reducible exact impl_LengthOf.mono _ _ _ _ _ _)
      | (with_reducible exact spec_LengthOf.mono _ _ _ _ _ _)
      | (with_reducible exact LeO.refl _)
      | (with_reducible exact LeO.none _)
      | (with_reducible refine LeO.ite ?_ ?_)
      | (with_reducible refine LeO.bind ?_ (fun _ => ?_))
      | exact impl_LengthOf.mono _ _ _ _ _ _
      | exact spec_LengthOf.mono _ _ _ _ _ _
      | exact LeO.none _
      | refine LeO.ite ?_ ?_
      | refine LeO.bind ?_ (fun _ => ?_)
set_option maxHeartbeats 8000000 in
set_option maxRecDepth 100000 in
theorem laws_FnExactLengthOf.calls (k : Nat) (a0 : Int) (a1_0 : Int) (a1_1 : Int) (a1_2 : Int) (a1_3 : Int) (r : Bool) (w : World) (h : laws_FnExactLengthOf.f k a0 a1_0 a1_1 a1_2 a1_3 = some r) :
    Calls Try.prog 8 #[.int .i64 a0, .agg #[.int .i64 a1_0, .int .i64 a1_1, .int .i64 a1_2, .int .i64 a1_3]] w fun e w' => e = .returned (.bool r) ∧ Below w.heap.size w w' := by
  have hu23 := Try.underlying23
  have HB := Aside0.mk (Below.refl w.heap.size w)
  have H : ((laws_toMatrix.f a1_0 a1_1 a1_2 a1_3).bind fun bt347 => ((spec_LengthOf.f k a0 bt347.1 bt347.2.1 bt347.2.2.1 bt347.2.2.2).bind fun bt351 => ((laws_toMatrix.f a1_0 a1_1 a1_2 a1_3).bind fun bt353 => ((impl_LengthOf.f k a0 bt353.1 bt353.2.1 bt353.2.2.1 bt353.2.2.2).bind fun bt357 => (if bt357.1 = bt351.1 then (if bt357.2 = bt351.2 then (some true) else (none)) else (none)))))) = some r := h
  clear h
  replace H := Option.bind_eq_some_iff.mp H
  obtain ⟨⟨t347, t348, t349, t350⟩, A30, H⟩ := H
  replace H : ((spec_LengthOf.f k a0 t347 t348 t349 t350).bind fun bt351 => ((laws_toMatrix.f a1_0 a1_1 a1_2 a1_3).bind fun bt353 => ((impl_LengthOf.f k a0 bt353.1 bt353.2.1 bt353.2.2.1 bt353.2.2.2).bind fun bt357 => (if bt357.1 = bt351.1 then (if bt357.2 = bt351.2 then (some true) else (none)) else (none))))) = some r := H
  have A3 := Aside0.mk A30
  clear A30
  replace H := Option.bind_eq_some_iff.mp H
  obtain ⟨⟨t351, t352⟩, A40, H⟩ := H
  replace H : ((laws_toMatrix.f a1_0 a1_1 a1_2 a1_3).bind fun bt353 => ((impl_LengthOf.f k a0 bt353.1 bt353.2.1 bt353.2.2.1 bt353.2.2.2).bind fun bt357 => (if bt357.1 = t351 then (if bt357.2 = t352 then (some true) else (none)) else (none)))) = some r := H
  have A4 := Aside0.mk A40
  clear A40
  replace H := Option.bind_eq_some_iff.mp H
  obtain ⟨⟨t353, t354, t355, t356⟩, A50, H⟩ := H
  replace H : ((impl_LengthOf.f k a0 t353 t354 t355 t356).bind fun bt357 => (if bt357.1 = t351 then (if bt357.2 = t352 then (some true) else (none)) else (none))) = some r := H
  have A5 := Aside0.mk A50
  clear A50
  replace H := Option.bind_eq_some_iff.mp H
  obtain ⟨⟨t357, t358⟩, A60, H⟩ := H
  replace H : (if t357 = t351 then (if t358 = t352 then (some true) else (none)) else (none)) = some r := H
  have A6 := Aside0.mk A60
  clear A60
  by_cases c7 : t357 = t351
  · rw [if_pos c7] at H
    have c7b0 : (t357 == t351) = true := beq_iff_eq.mpr c7
    have c7b1 : (t357 != t351) = false := bne_eq_false_iff_eq.mpr c7
    clear c7
    by_cases c8 : t358 = t352
    · rw [if_pos c8] at H
      have c8b0 : (t358 == t352) = true := beq_iff_eq.mpr c8
      have c8b1 : (t358 != t352) = false := bne_eq_false_iff_eq.mpr c8
      clear c8
      obtain rfl := Option.some.inj H
      go_enter Try.func8, Try.ntmps8
      go_wp2_with (first | ((with_reducible refine gate_dst (N := 3) rfl ?_); refine box_event ?hg (N := 3) ?hd (cs := #[.int .i64 a1_0, .int .i64 a1_1, .int .i64 a1_2, .int .i64 a1_3]) (t := 23) ?hr ?_; (case hd => rfl); (case hg => rfl); (case hr => first | (go_simp; done) | (go_simp; rfl)); intro gb346 hg w9 hbox hb; have n0_ := Aside0.mk (below_step blA hb); have n1_ := Aside0.mk (hbox); have n2_ := Aside0.mk (szA hg blA); have n3_ := Aside0.mk (szA hg blA); clear HB; have HB := n0_; have BK346 := n1_; have GW346 := n2_; have GE346 := n3_; clear n0_ n1_ n2_ n3_; clear hb hbox hg; have hcz10_0 : w9.cell? ⟨gb346, 0, none⟩ = some (.int .i64 a1_0) := (blk_cell BK346.out 0).trans rfl; have hcz10_1 : w9.cell? ⟨gb346, 1, none⟩ = some (.int .i64 a1_1) := (blk_cell BK346.out 1).trans rfl; have hcz10_2 : w9.cell? ⟨gb346, 2, none⟩ = some (.int .i64 a1_2) := (blk_cell BK346.out 2).trans rfl; have hcz10_3 : w9.cell? ⟨gb346, 3, none⟩ = some (.int .i64 a1_3) := (blk_cell BK346.out 3).trans rfl; have hfz10_0 := blk_frozen BK346.out 0; have hfz10_1 := blk_frozen BK346.out 1; have hfz10_2 := blk_frozen BK346.out 2; have hfz10_3 := blk_frozen BK346.out 3) | ((with_reducible refine gate_callee (f := 16) rfl ?_); refine goesL_ (some 12) rfl rfl Try.func16 (by kernel_rfl) rfl #[.agg #[.int .i64 a1_0, .int .i64 a1_1, .int .i64 a1_2, .int .i64 a1_3]] rfl (by (try simp only [List.map_toArray, List.map_cons, List.map_nil]); first | done | rfl | (simp only [List.length_drop, List.length_take]; rfl)) ?_; (with_reducible refine (laws_toMatrix.calls a1_0 a1_1 a1_2 a1_3 t347 t348 t349 t350 _ A3.out).mono ?_); rintro e w11 ⟨rfl, hb⟩; refine ⟨_, rfl, ?_⟩; have n0_ := Aside0.mk (blk_below (bkA BK346) hb); have n1_ := Aside0.mk (below_step blA hb); clear BK346; clear HB; have BK346 := n0_; have HB := n1_; clear n0_ n1_; (try clear hb); (try clear hb2); (try clear hk); (try clear hi)) | ((with_reducible refine gate_callee (f := 27) rfl ?_); refine goesL_ (some 13) rfl rfl Try.func27 (by kernel_rfl) rfl #[.int .i64 a0, .agg #[.int .i64 t347, .int .i64 t348, .int .i64 t349, .int .i64 t350]] rfl (by (try simp only [List.map_toArray, List.map_cons, List.map_nil]); first | done | rfl | (simp only [List.length_drop, List.length_take]; rfl)) ?_; (with_reducible refine (spec_LengthOf.calls k a0 t347 t348 t349 t350 t351 t352 _ A4.out).mono ?_); rintro e w12 ⟨rfl, hb⟩; refine ⟨_, rfl, ?_⟩; have n0_ := Aside0.mk (blk_below (bkA BK346) hb); have n1_ := Aside0.mk (below_step blA hb); clear BK346; clear HB; have BK346 := n0_; have HB := n1_; clear n0_ n1_; (try clear hb); (try clear hb2); (try clear hk); (try clear hi); have hcz13_0 : w12.cell? ⟨gb346, 0, none⟩ = some (.int .i64 a1_0) := (blk_cell BK346.out 0).trans rfl; have hcz13_1 : w12.cell? ⟨gb346, 1, none⟩ = some (.int .i64 a1_1) := (blk_cell BK346.out 1).trans rfl; have hcz13_2 : w12.cell? ⟨gb346, 2, none⟩ = some (.int .i64 a1_2) := (blk_cell BK346.out 2).trans rfl; have hcz13_3 : w12.cell? ⟨gb346, 3, none⟩ = some (.int .i64 a1_3) := (blk_cell BK346.out 3).trans rfl; have hfz13_0 := blk_frozen BK346.out 0; have hfz13_1 := blk_frozen BK346.out 1; have hfz13_2 := blk_frozen BK346.out 2; have hfz13_3 := blk_frozen BK346.out 3) | ((with_reducible refine gate_callee (f := 16) rfl ?_); refine goesL_ (some 19) rfl rfl Try.func16 (by kernel_rfl) rfl #[.agg #[.int .i64 a1_0, .int .i64 a1_1, .int .i64 a1_2, .int .i64 a1_3]] rfl (by (try simp only [List.map_toArray, List.map_cons, List.map_nil]); first | done | rfl | (simp only [List.length_drop, List.length_take]; rfl)) ?_; (with_reducible refine (laws_toMatrix.calls a1_0 a1_1 a1_2 a1_3 t353 t354 t355 t356 _ A5.out).mono ?_); rintro e w14 ⟨rfl, hb⟩; refine ⟨_, rfl, ?_⟩; have n0_ := Aside0.mk (blk_below (bkA BK346) hb); have n1_ := Aside0.mk (below_step blA hb); clear BK346; clear HB; have BK346 := n0_; have HB := n1_; clear n0_ n1_; (try clear hb); (try clear hb2); (try clear hk); (try clear hi)) | ((with_reducible refine gate_callee (f := 28) rfl ?_); refine goesL_ (some 20) rfl rfl Try.func28 (by kernel_rfl) rfl #[.int .i64 a0, .agg #[.int .i64 t353, .int .i64 t354, .int .i64 t355, .int .i64 t356]] rfl (by (try simp only [List.map_toArray, List.map_cons, List.map_nil]); first | done | rfl | (simp only [List.length_drop, List.length_take]; rfl)) ?_; (with_reducible refine (impl_LengthOf.calls k a0 t353 t354 t355 t356 t357 t358 _ A6.out).mono ?_); rintro e w15 ⟨rfl, hb⟩; refine ⟨_, rfl, ?_⟩; have n0_ := Aside0.mk (blk_below (bkA BK346) hb); have n1_ := Aside0.mk (below_step blA hb); clear BK346; clear HB; have BK346 := n0_; have HB := n1_; clear n0_ n1_; (try clear hb); (try clear hb2); (try clear hk); (try clear hi)))
      go_ret
      exact ⟨by first | rfl | (simp [errW_none, errW_some] <;> rfl) | (simp [*, errW_none, errW_some] <;> rfl), blA⟩
    · rw [if_neg c8] at H
      exact absurd H (by simp)
  · rw [if_neg c7] at H
    exact absurd H (by simp)
end Go.Proofs.Ytmhajnfdbjnegaa.PAll
