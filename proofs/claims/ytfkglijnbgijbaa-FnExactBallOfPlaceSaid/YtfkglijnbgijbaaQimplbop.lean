-- turned for this claim out of the kit's print: the same functions, packed anew
import Derived.Test.YtfkglijnbgijbaaQx
import Derived.Test.YtfkglijnbgijbaaQimplbop0
import Derived.Test.YtfkglijnbgijbaaQimplbopA
import Derived.Test.YtfkglijnbgijbaaQimplbopB
import Derived.Test.YtfkglijnbgijbaaQimplbopC
import Derived.Test.YtfkglijnbgijbaaQimplbopD
import Derived.Test.YtfkglijnbgijbaaQimplfitted
import Derived.Test.YtfkglijnbgijbaaQimplneighbour
import Derived.Test.YtfkglijnbgijbaaQimpltoward
namespace Go.Proofs.Ytfkglijnbgijbaa.PAll
open Go.RowKit Go.Proofs.YtfkglijnbgijbaaW.PrintWords Go.Proofs.YtfkglijnbgijbaaW.PrintLast Go.Proofs.YtfkglijnbgijbaaW.PrintMore
attribute [local go_sem] Go.Proofs.Ytfkglijnbgijbaa.Aux.setCell_drewN Go.Proofs.Ytfkglijnbgijbaa.Aux.isSome_setCell Go.Proofs.Ytfkglijnbgijbaa.Aux.max_eight max2_int min2_int max_two min_two max_three min_three max_four min_four   -- for this text's walks alone
set_option linter.unusedVariables false
set_option linter.unusedSimpArgs false
/-! ### impl_bop: function 79 -/
set_option maxHeartbeats 8000000 in
set_option maxRecDepth 100000 in
theorem impl_bop.calls (k : Nat) : ∀ (a0 : Int) (a1_0 : Int) (a1_1 : Int) (a1_2 : Int) (a2 : Int) (r1 : Int) (r2 : Int) (r3 : Int) (r4 : Int) (r5 : Int) (r6 : Int) (r7 : Bool) (w : World) (h : impl_bop0.f k a0 a1_0 a1_1 a1_2 a2 = some (r1, r2, r3, r4, r5, r6, r7)),
    Calls Try.prog 79 #[.int .i64 a0, .agg #[.int .i64 a1_0, .int .i64 a1_1, .int .i64 a1_2], .int .i64 a2] w fun e w' => e = .returned (.tuple #[.agg #[.int .i64 r1, .int .i64 r2, .int .i64 r3], .agg #[.int .i64 r4, .int .i64 r5, .int .i64 r6], .bool r7]) ∧ Below w.heap.size w w' := by
  induction k using Nat.strongRecOn with
  | _ k ih =>
  intro a0 a1_0 a1_1 a1_2 a2 r1 r2 r3 r4 r5 r6 r7 w h
  cases k with
  | zero => exact absurd h (by simp [impl_bop0.f])
  | succ k =>
  simp only [impl_bop0.f] at h
  have hu34 := Try.underlying34
  have HB := Aside0.mk (Below.refl w.heap.size w)
  have H : (if a2 = 0 then (some (a1_0, a1_1, a1_2, a1_0, a1_1, a1_2, true)) else ((impl_parentPlace.f a0 a2).bind fun t624 => ((impl_bop0.f k a0 a1_0 a1_1 a1_2 t624).bind fun bt625 => (if bt625.2.2.2.2.2.2 = true then ((impl_firstChild.f a0 t624).bind fun t634 => (if t624 > 0 then ((impl_toward.f k a0 bt625.1 bt625.2.1 bt625.2.2.1 bt625.2.2.2.1 bt625.2.2.2.2.1 bt625.2.2.2.2.2.1).bind fun t635 => (if (wrap64 (a2 - t634)) ≥ t635 then ((impl_neighbour.f k a0 bt625.1 bt625.2.1 bt625.2.2.1 (wrap64 ((wrap64 (a2 - t634)) + 1))).bind fun bt636 => (some (bt636.1, bt636.2.1, bt636.2.2.1, bt625.1, bt625.2.1, bt625.2.2.1, bt636.2.2.2))) else ((impl_neighbour.f k a0 bt625.1 bt625.2.1 bt625.2.2.1 (wrap64 (a2 - t634))).bind fun bt641 => (some (bt641.1, bt641.2.1, bt641.2.2.1, bt625.1, bt625.2.1, bt625.2.2.1, bt641.2.2.2))))) else ((impl_neighbour.f k a0 bt625.1 bt625.2.1 bt625.2.2.1 (wrap64 (a2 - t634))).bind fun bt646 => (some (bt646.1, bt646.2.1, bt646.2.2.1, bt625.1, bt625.2.1, bt625.2.2.1, bt646.2.2.2))))) else (some (0, 0, 0, 0, 0, 0, false)))))) = some (r1, r2, r3, r4, r5, r6, r7) := h
  clear h
  by_cases c4 : a2 = 0
  · rw [if_pos c4] at H
    have c4b0 : (a2 == 0) = true := beq_iff_eq.mpr c4
    have c4b1 : (a2 != 0) = false := bne_eq_false_iff_eq.mpr c4
    clear c4
    simp only [Option.some.injEq, Prod.mk.injEq] at H
    obtain ⟨rfl, rfl, rfl, rfl, rfl, rfl, rfl⟩ := H
    go_enter Try.func79, Try.ntmps79
    try go_wp2_with (first | ((with_reducible refine gate_dst (N := 4) rfl ?_); refine box_event ?hg (N := 4) ?hd (cs := #[.int .i64 a1_0, .int .i64 a1_1, .int .i64 a1_2]) (t := 34) ?hr ?_; (case hd => rfl); (case hg => rfl); (case hr => first | (go_simp; done) | (go_simp; rfl)); intro gb621 hg w5 hbox hb; have n0_ := Aside0.mk (below_step blA hb); have n1_ := Aside0.mk (hbox); have n2_ := Aside0.mk (szA hg blA); have n3_ := Aside0.mk (szA hg blA); clear HB; have HB := n0_; have BK621 := n1_; have GW621 := n2_; have GE621 := n3_; clear n0_ n1_ n2_ n3_; clear hb hbox hg) | ((with_reducible refine gate_dst (N := 6) rfl ?_); refine box_event ?hg (N := 6) ?hd (cs := #[.int .i64 0, .int .i64 0, .int .i64 0]) (t := 34) ?hr ?_; (case hd => rfl); (case hg => rfl); (case hr => first | (go_simp; done) | (go_simp; rfl)); intro gb622 hg w6 hbox hb; have n0_ := Aside0.mk (blk_below (bkA BK621) hb); have n1_ := Aside0.mk (below_step blA hb); have n2_ := Aside0.mk (hbox); have n3_ := Aside0.mk (szA hg blA); have n4_ := Aside0.mk (szA hg blA); have n5_ := Aside0.mk (neA hg (bkA BK621)); have n6_ := Aside0.mk (neB hg (bkA BK621)); clear BK621; clear HB; have BK621 := n0_; have HB := n1_; have BK622 := n2_; have GW622 := n3_; have GE622 := n4_; have NB621_622 := n5_; have NB622_621 := n6_; clear n0_ n1_ n2_ n3_ n4_ n5_ n6_; clear hb hbox hg) | ((with_reducible refine gate_dst (N := 7) rfl ?_); refine box_event ?hg (N := 7) ?hd (cs := #[.int .i64 0, .int .i64 0, .int .i64 0]) (t := 34) ?hr ?_; (case hd => rfl); (case hg => rfl); (case hr => first | (go_simp; done) | (go_simp; rfl)); intro gb623 hg w7 hbox hb; have n0_ := Aside0.mk (blk_below (bkA BK621) hb); have n1_ := Aside0.mk (blk_below (bkA BK622) hb); have n2_ := Aside0.mk (below_step blA hb); have n3_ := Aside0.mk (hbox); have n4_ := Aside0.mk (szA hg blA); have n5_ := Aside0.mk (szA hg blA); have n6_ := Aside0.mk (neA hg (bkA BK621)); have n7_ := Aside0.mk (neB hg (bkA BK621)); have n8_ := Aside0.mk (neA hg (bkA BK622)); have n9_ := Aside0.mk (neB hg (bkA BK622)); clear BK621; clear BK622; clear HB; have BK621 := n0_; have BK622 := n1_; have HB := n2_; have BK623 := n3_; have GW623 := n4_; have GE623 := n5_; have NB621_623 := n6_; have NB623_621 := n7_; have NB622_623 := n8_; have NB623_622 := n9_; clear n0_ n1_ n2_ n3_ n4_ n5_ n6_ n7_ n8_ n9_; clear hb hbox hg))
    have n0_ := Aside0.mk (blk_drew BK621.out)
    have n1_ := Aside0.mk (blk_drew BK622.out)
    have n2_ := Aside0.mk (blk_drew BK623.out)
    have n3_ := Aside0.mk (below_drew1 HB.out)
    clear BK621
    clear BK622
    clear BK623
    clear HB
    have BK621 := n0_
    have BK622 := n1_
    have BK623 := n2_
    have HB := n3_
    clear n0_ n1_ n2_ n3_
    refine start_ (n := 5) (S := fun w' => w'.cell? ⟨gb621, 0, none⟩ = some (.int .i64 a1_0) ∧ w'.cell? ⟨gb621, 1, none⟩ = some (.int .i64 a1_1) ∧ w'.cell? ⟨gb621, 2, none⟩ = some (.int .i64 a1_2)) (ds := []) #[false, false, false, false, false] (by kernel_rfl) rfl rfl ⟨(blk_cell BK621.out 0).trans rfl, (blk_cell BK621.out 1).trans rfl, (blk_cell BK621.out 2).trans rfl⟩ (fun hHeld => ?_)
    generalize w7.drew = w8 at BK621 BK622 BK623 HB hHeld ⊢
    refine take_ (i := 0) (N := some 18) (v := ?_) (a' := ?_) #[true, false, false, false, false] rfl rfl (by kernel_rfl) (fun _ _ _ h => h) (Or.inl ⟨by rfl, ?_⟩) hHeld ?_ ?_
    rotate_left
    · rintro w' ⟨s0, s1, s2⟩
      go_simp
      with_reducible rfl
    rotate_left
    · simp only [Act.put, List.setIfInBounds_toArray, List.set_cons_zero, List.set_cons_succ, i64_w, i32_w]
      rfl
    refine take_ (i := 1) (N := some 19) (v := ?_) (a' := ?_) #[true, true, false, false, false] rfl rfl (by kernel_rfl) (fun _ _ _ h => h) (Or.inl ⟨by rfl, ?_⟩) hHeld ?_ ?_
    rotate_left
    · rintro w' ⟨s0, s1, s2⟩
      go_simp
      with_reducible rfl
    rotate_left
    · simp only [Act.put, List.setIfInBounds_toArray, List.set_cons_zero, List.set_cons_succ, i64_w, i32_w]
      rfl
    refine one_ (i := 2) (N := none) #[true, true, true, false, false] rfl rfl (by kernel_rfl) (by decide) (fun K hK => ?_)
    have hs9 : w8.cell? ⟨gb622, 0, none⟩ = some (.int .i64 0) := (blk_cell BK622.out 0).trans rfl
    have hfs9 := blk_frozen BK622.out 0
    have hns9_0 := NB621_622.out
    have hns9_2 := NB623_622.out
    have hms9_0 := NB622_621.out
    have hms9_2 := NB622_623.out
    have hs10 : w8.cell? ⟨gb622, 1, none⟩ = some (.int .i64 0) := (blk_cell BK622.out 1).trans rfl
    have hfs10 := blk_frozen BK622.out 1
    have hns10_0 := NB621_622.out
    have hns10_2 := NB623_622.out
    have hms10_0 := NB622_621.out
    have hms10_2 := NB622_623.out
    have hs11 : w8.cell? ⟨gb622, 2, none⟩ = some (.int .i64 0) := (blk_cell BK622.out 2).trans rfl
    have hfs11 := blk_frozen BK622.out 2
    have hns11_0 := NB621_622.out
    have hns11_2 := NB623_622.out
    have hms11_0 := NB622_621.out
    have hms11_2 := NB622_623.out
    refine skip_ (w1 := ?_) (by rfl) rfl ?_ ?_
    rotate_left
    · go_simp
      rfl
    refine hK.out _ _ ⟨((cell_far (p := ⟨gb622, _, none⟩) NB621_622.out _).trans (((cell_far (p := ⟨gb622, _, none⟩) NB621_622.out _).trans (((cell_far (p := ⟨gb622, _, none⟩) NB621_622.out _).trans (hHeld.1)))))), ((cell_far (p := ⟨gb622, _, none⟩) NB621_622.out _).trans (((cell_far (p := ⟨gb622, _, none⟩) NB621_622.out _).trans (((cell_far (p := ⟨gb622, _, none⟩) NB621_622.out _).trans (hHeld.2.1)))))), ((cell_far (p := ⟨gb622, _, none⟩) NB621_622.out _).trans (((cell_far (p := ⟨gb622, _, none⟩) NB621_622.out _).trans (((cell_far (p := ⟨gb622, _, none⟩) NB621_622.out _).trans (hHeld.2.2))))))⟩ (fun hHeld => ?_)
    clear hK K
    refine one_ (i := 3) (N := none) #[true, true, true, true, false] rfl rfl (by kernel_rfl) (by decide) (fun K hK => ?_)
    have hs12 : w8.cell? ⟨gb623, 0, none⟩ = some (.int .i64 0) := (blk_cell BK623.out 0).trans rfl
    have hfs12 := blk_frozen BK623.out 0
    have hns12_0 := NB621_623.out
    have hns12_1 := NB622_623.out
    have hms12_0 := NB623_621.out
    have hms12_1 := NB623_622.out
    have hs13 : w8.cell? ⟨gb623, 1, none⟩ = some (.int .i64 0) := (blk_cell BK623.out 1).trans rfl
    have hfs13 := blk_frozen BK623.out 1
    have hns13_0 := NB621_623.out
    have hns13_1 := NB622_623.out
    have hms13_0 := NB623_621.out
    have hms13_1 := NB623_622.out
    have hs14 : w8.cell? ⟨gb623, 2, none⟩ = some (.int .i64 0) := (blk_cell BK623.out 2).trans rfl
    have hfs14 := blk_frozen BK623.out 2
    have hns14_0 := NB621_623.out
    have hns14_1 := NB622_623.out
    have hms14_0 := NB623_621.out
    have hms14_1 := NB623_622.out
    refine skip_ (w1 := ?_) (by rfl) rfl ?_ ?_
    rotate_left
    · go_simp
      rfl
    refine hK.out _ _ ⟨((cell_far (p := ⟨gb623, _, none⟩) NB621_623.out _).trans (((cell_far (p := ⟨gb623, _, none⟩) NB621_623.out _).trans (((cell_far (p := ⟨gb623, _, none⟩) NB621_623.out _).trans (hHeld.1)))))), ((cell_far (p := ⟨gb623, _, none⟩) NB621_623.out _).trans (((cell_far (p := ⟨gb623, _, none⟩) NB621_623.out _).trans (((cell_far (p := ⟨gb623, _, none⟩) NB621_623.out _).trans (hHeld.2.1)))))), ((cell_far (p := ⟨gb623, _, none⟩) NB621_623.out _).trans (((cell_far (p := ⟨gb623, _, none⟩) NB621_623.out _).trans (((cell_far (p := ⟨gb623, _, none⟩) NB621_623.out _).trans (hHeld.2.2))))))⟩ (fun hHeld => ?_)
    clear hK K
    refine pure_ (i := 4) (N := some 8) (v := ?_) (a' := ?_) #[true, true, true, true, true] rfl rfl (by kernel_rfl) (fun _ _ _ h => h) (Or.inl ⟨by rfl, ?_⟩) ?_ ?_
    rotate_left
    · intro w'
      go_simp
      with_reducible rfl
    rotate_left
    · simp only [Act.put, List.setIfInBounds_toArray, List.set_cons_zero, List.set_cons_succ, i64_w, i32_w]
      rfl
    refine done_ (by kernel_rfl) ?_
    try go_wp2
    refine bodyPost_ret (results_list (rs := [.cell 6 34, .cell 7 34, .tmp 8]) rfl (by simp) (.cell gb622 34 #[.int .i64 a1_0, .int .i64 a1_1, .int .i64 a1_2] (0, 0) _ rfl (by (with_reducible repeat (first | refine blk_drewN ?_ _ | refine blk_drew ?_ | refine blk_alloc ?_ _)); refine blk_far ?_ NB622_623.out _; (with_reducible repeat (first | refine blk_drewN ?_ _ | refine blk_drew ?_ | refine blk_alloc ?_ _)); refine blk_far ?_ NB622_623.out _; (with_reducible repeat (first | refine blk_drewN ?_ _ | refine blk_drew ?_ | refine blk_alloc ?_ _)); refine blk_far ?_ NB622_623.out _; (with_reducible repeat (first | refine blk_drewN ?_ _ | refine blk_drew ?_ | refine blk_alloc ?_ _)); refine blk_put (cs := #[.int .i64 a1_0, .int .i64 a1_1, .int .i64 0]) ?_ 2 _ rfl; (with_reducible repeat (first | refine blk_drewN ?_ _ | refine blk_drew ?_ | refine blk_alloc ?_ _)); refine blk_put (cs := #[.int .i64 a1_0, .int .i64 0, .int .i64 0]) ?_ 1 _ rfl; (with_reducible repeat (first | refine blk_drewN ?_ _ | refine blk_drew ?_ | refine blk_alloc ?_ _)); refine blk_put (cs := #[.int .i64 0, .int .i64 0, .int .i64 0]) ?_ 0 _ rfl; (with_reducible repeat (first | refine blk_drewN ?_ _ | refine blk_drew ?_ | refine blk_alloc ?_ _)); exact BK622.out) Try.underlying34 rfl (by kernel_rfl) (.cell gb623 34 #[.int .i64 a1_0, .int .i64 a1_1, .int .i64 a1_2] (0, 0) _ rfl (by (with_reducible repeat (first | refine blk_drewN ?_ _ | refine blk_drew ?_ | refine blk_alloc ?_ _)); refine blk_put (cs := #[.int .i64 a1_0, .int .i64 a1_1, .int .i64 0]) ?_ 2 _ rfl; (with_reducible repeat (first | refine blk_drewN ?_ _ | refine blk_drew ?_ | refine blk_alloc ?_ _)); refine blk_put (cs := #[.int .i64 a1_0, .int .i64 0, .int .i64 0]) ?_ 1 _ rfl; (with_reducible repeat (first | refine blk_drewN ?_ _ | refine blk_drew ?_ | refine blk_alloc ?_ _)); refine blk_put (cs := #[.int .i64 0, .int .i64 0, .int .i64 0]) ?_ 0 _ rfl; (with_reducible repeat (first | refine blk_drewN ?_ _ | refine blk_drew ?_ | refine blk_alloc ?_ _)); refine blk_far ?_ NB623_622.out _; (with_reducible repeat (first | refine blk_drewN ?_ _ | refine blk_drew ?_ | refine blk_alloc ?_ _)); refine blk_far ?_ NB623_622.out _; (with_reducible repeat (first | refine blk_drewN ?_ _ | refine blk_drew ?_ | refine blk_alloc ?_ _)); refine blk_far ?_ NB623_622.out _; (with_reducible repeat (first | refine blk_drewN ?_ _ | refine blk_drew ?_ | refine blk_alloc ?_ _)); exact BK623.out) Try.underlying34 rfl (by kernel_rfl) (.tmp .nil)))) rfl ?_
    exact ⟨by first | rfl | (simp [errW_none, errW_some] <;> rfl) | (simp [*, errW_none, errW_some] <;> rfl), blA⟩
  · rw [if_neg c4] at H
    have c4b0 : (a2 == 0) = false := beq_eq_false_iff_ne.mpr c4
    have c4b1 : (a2 != 0) = true := bne_iff_ne.mpr c4
    replace H := Option.bind_eq_some_iff.mp H
    obtain ⟨t624, A150, H⟩ := H
    replace H : ((impl_bop0.f k a0 a1_0 a1_1 a1_2 t624).bind fun bt625 => (if bt625.2.2.2.2.2.2 = true then ((impl_firstChild.f a0 t624).bind fun t634 => (if t624 > 0 then ((impl_toward.f k a0 bt625.1 bt625.2.1 bt625.2.2.1 bt625.2.2.2.1 bt625.2.2.2.2.1 bt625.2.2.2.2.2.1).bind fun t635 => (if (wrap64 (a2 - t634)) ≥ t635 then ((impl_neighbour.f k a0 bt625.1 bt625.2.1 bt625.2.2.1 (wrap64 ((wrap64 (a2 - t634)) + 1))).bind fun bt636 => (some (bt636.1, bt636.2.1, bt636.2.2.1, bt625.1, bt625.2.1, bt625.2.2.1, bt636.2.2.2))) else ((impl_neighbour.f k a0 bt625.1 bt625.2.1 bt625.2.2.1 (wrap64 (a2 - t634))).bind fun bt641 => (some (bt641.1, bt641.2.1, bt641.2.2.1, bt625.1, bt625.2.1, bt625.2.2.1, bt641.2.2.2))))) else ((impl_neighbour.f k a0 bt625.1 bt625.2.1 bt625.2.2.1 (wrap64 (a2 - t634))).bind fun bt646 => (some (bt646.1, bt646.2.1, bt646.2.2.1, bt625.1, bt625.2.1, bt625.2.2.1, bt646.2.2.2))))) else (some (0, 0, 0, 0, 0, 0, false)))) = some (r1, r2, r3, r4, r5, r6, r7) := H
    have A15 := Aside0.mk A150
    clear A150
    replace H := Option.bind_eq_some_iff.mp H
    obtain ⟨⟨t625, t626, t627, t628, t629, t630, t631⟩, A160, H⟩ := H
    replace H : (if t631 = true then ((impl_firstChild.f a0 t624).bind fun t634 => (if t624 > 0 then ((impl_toward.f k a0 t625 t626 t627 t628 t629 t630).bind fun t635 => (if (wrap64 (a2 - t634)) ≥ t635 then ((impl_neighbour.f k a0 t625 t626 t627 (wrap64 ((wrap64 (a2 - t634)) + 1))).bind fun bt636 => (some (bt636.1, bt636.2.1, bt636.2.2.1, t625, t626, t627, bt636.2.2.2))) else ((impl_neighbour.f k a0 t625 t626 t627 (wrap64 (a2 - t634))).bind fun bt641 => (some (bt641.1, bt641.2.1, bt641.2.2.1, t625, t626, t627, bt641.2.2.2))))) else ((impl_neighbour.f k a0 t625 t626 t627 (wrap64 (a2 - t634))).bind fun bt646 => (some (bt646.1, bt646.2.1, bt646.2.2.1, t625, t626, t627, bt646.2.2.2))))) else (some (0, 0, 0, 0, 0, 0, false))) = some (r1, r2, r3, r4, r5, r6, r7) := H
    have A16 := Aside0.mk A160
    clear A160
    by_cases c17 : t631 = true
    · subst c17
      have H1 : ((impl_firstChild.f a0 t624).bind fun t634 => (if t624 > 0 then ((impl_toward.f k a0 t625 t626 t627 t628 t629 t630).bind fun t635 => (if (wrap64 (a2 - t634)) ≥ t635 then ((impl_neighbour.f k a0 t625 t626 t627 (wrap64 ((wrap64 (a2 - t634)) + 1))).bind fun bt636 => (some (bt636.1, bt636.2.1, bt636.2.2.1, t625, t626, t627, bt636.2.2.2))) else ((impl_neighbour.f k a0 t625 t626 t627 (wrap64 (a2 - t634))).bind fun bt641 => (some (bt641.1, bt641.2.1, bt641.2.2.1, t625, t626, t627, bt641.2.2.2))))) else ((impl_neighbour.f k a0 t625 t626 t627 (wrap64 (a2 - t634))).bind fun bt646 => (some (bt646.1, bt646.2.1, bt646.2.2.1, t625, t626, t627, bt646.2.2.2))))) = some (r1, r2, r3, r4, r5, r6, r7) := by rw [if_pos rfl] at H; exact H
      clear H
      have H := H1
      clear H1
      replace H := Option.bind_eq_some_iff.mp H
      obtain ⟨t634, A180, H⟩ := H
      replace H : (if t624 > 0 then ((impl_toward.f k a0 t625 t626 t627 t628 t629 t630).bind fun t635 => (if (wrap64 (a2 - t634)) ≥ t635 then ((impl_neighbour.f k a0 t625 t626 t627 (wrap64 ((wrap64 (a2 - t634)) + 1))).bind fun bt636 => (some (bt636.1, bt636.2.1, bt636.2.2.1, t625, t626, t627, bt636.2.2.2))) else ((impl_neighbour.f k a0 t625 t626 t627 (wrap64 (a2 - t634))).bind fun bt641 => (some (bt641.1, bt641.2.1, bt641.2.2.1, t625, t626, t627, bt641.2.2.2))))) else ((impl_neighbour.f k a0 t625 t626 t627 (wrap64 (a2 - t634))).bind fun bt646 => (some (bt646.1, bt646.2.1, bt646.2.2.1, t625, t626, t627, bt646.2.2.2)))) = some (r1, r2, r3, r4, r5, r6, r7) := H
      have A18 := Aside0.mk A180
      clear A180
      by_cases c19 : t624 > 0
      · rw [if_pos c19] at H
        have c19b0 : decide (0 < t624) = true := decide_eq_true c19
        clear c19
        replace H := Option.bind_eq_some_iff.mp H
        obtain ⟨t635, A200, H⟩ := H
        replace H : (if (wrap64 (a2 - t634)) ≥ t635 then ((impl_neighbour.f k a0 t625 t626 t627 (wrap64 ((wrap64 (a2 - t634)) + 1))).bind fun bt636 => (some (bt636.1, bt636.2.1, bt636.2.2.1, t625, t626, t627, bt636.2.2.2))) else ((impl_neighbour.f k a0 t625 t626 t627 (wrap64 (a2 - t634))).bind fun bt641 => (some (bt641.1, bt641.2.1, bt641.2.2.1, t625, t626, t627, bt641.2.2.2)))) = some (r1, r2, r3, r4, r5, r6, r7) := H
        have A20 := Aside0.mk A200
        clear A200
        by_cases c21 : (wrap64 (a2 - t634)) ≥ t635
        · rw [if_pos c21] at H
          have c21b0 : decide (t635 ≤ (wrap64 (a2 - t634))) = true := decide_eq_true c21
          clear c21
          replace H := Option.bind_eq_some_iff.mp H
          obtain ⟨⟨t636, t637, t638, t639⟩, A220, H⟩ := H
          replace H : (some (t636, t637, t638, t625, t626, t627, t639)) = some (r1, r2, r3, r4, r5, r6, r7) := H
          have A22 := Aside0.mk A220
          clear A220
          simp only [Option.some.injEq, Prod.mk.injEq] at H
          obtain ⟨rfl, rfl, rfl, rfl, rfl, rfl, rfl⟩ := H
          exact impl_bopA.arm k ih a0 a1_0 a1_1 a1_2 a2 t624 t625 t626 t627 t628 t629 t630 t634 t635 t636 t637 t638 t639 w c4b0 c4b1 A15 A16 A18 c19b0 A20 c21b0 A22
        · rw [if_neg c21] at H
          have c21b0 : decide (t635 ≤ (wrap64 (a2 - t634))) = false := decide_eq_false c21
          clear c21
          replace H := Option.bind_eq_some_iff.mp H
          obtain ⟨⟨t641, t642, t643, t644⟩, A590, H⟩ := H
          replace H : (some (t641, t642, t643, t625, t626, t627, t644)) = some (r1, r2, r3, r4, r5, r6, r7) := H
          have A59 := Aside0.mk A590
          clear A590
          simp only [Option.some.injEq, Prod.mk.injEq] at H
          obtain ⟨rfl, rfl, rfl, rfl, rfl, rfl, rfl⟩ := H
          exact impl_bopB.arm k ih a0 a1_0 a1_1 a1_2 a2 t624 t625 t626 t627 t628 t629 t630 t634 t635 t641 t642 t643 t644 w c4b0 c4b1 A15 A16 A18 c19b0 A20 c21b0 A59
      · rw [if_neg c19] at H
        have c19b0 : decide (0 < t624) = false := decide_eq_false c19
        clear c19
        replace H := Option.bind_eq_some_iff.mp H
        obtain ⟨⟨t646, t647, t648, t649⟩, A960, H⟩ := H
        replace H : (some (t646, t647, t648, t625, t626, t627, t649)) = some (r1, r2, r3, r4, r5, r6, r7) := H
        have A96 := Aside0.mk A960
        clear A960
        simp only [Option.some.injEq, Prod.mk.injEq] at H
        obtain ⟨rfl, rfl, rfl, rfl, rfl, rfl, rfl⟩ := H
        exact impl_bopC.arm k ih a0 a1_0 a1_1 a1_2 a2 t624 t625 t626 t627 t628 t629 t630 t634 t646 t647 t648 t649 w c4b0 c4b1 A15 A16 A18 c19b0 A96
    · replace c17 := Bool.eq_false_iff.mpr c17
      subst c17
      have H1 : (some (0, 0, 0, 0, 0, 0, false)) = some (r1, r2, r3, r4, r5, r6, r7) := by rw [if_neg (show ¬ (false = true) by decide)] at H; exact H
      clear H
      have H := H1
      clear H1
      simp only [Option.some.injEq, Prod.mk.injEq] at H
      obtain ⟨rfl, rfl, rfl, rfl, rfl, rfl, rfl⟩ := H
      exact impl_bopD.arm k ih a0 a1_0 a1_1 a1_2 a2 t624 t625 t626 t627 t628 t629 t630 w c4b0 c4b1 A15 A16
end Go.Proofs.Ytfkglijnbgijbaa.PAll
