-- turned for this claim out of the kit's print: the same functions, packed anew
import Derived.Test.YtccpccnnbacgjaaQx
import Derived.Test.YtccpccnnbacgjaaQimplmoveBall
namespace Go.Proofs.Ytccpccnnbacgjaa.PAll
open Go.RowKit Go.Proofs.YtccpccnnbacgjaaW.PrintWords Go.Proofs.YtccpccnnbacgjaaW.PrintLast Go.Proofs.YtccpccnnbacgjaaW.PrintMore
attribute [local go_sem] Go.Proofs.Ytccpccnnbacgjaa.Aux.setCell_drewN Go.Proofs.Ytccpccnnbacgjaa.Aux.isSome_setCell max2_int min2_int max_two min_two max_three min_three max_four min_four   -- for this text's walks alone
set_option linter.unusedVariables false
set_option linter.unusedSimpArgs false
attribute [local go_sem high] eqA39
/-! ### impl_keeps: function 66 -/
def impl_keeps.f (k : Nat) (a0 : Int) (a1_0 : Int) (a1_1 : Int) (a1_2 : Int) (a1_3 : Int) (a2_0 : Int) (a2_1 : Int) (a2_2 : Int) : Option (Bool) := (impl_moveBall.f k a0 a1_0 a1_1 a1_2 a1_3 a2_0 a2_1 a2_2).bind fun bt382 => (if bt382.2.2.2 = true then (some (bt382.1 == a2_0 && (bt382.2.1 == a2_1 && (bt382.2.2.1 == a2_2)))) else (some false))
theorem impl_keeps.mono : ∀ a0 a1 a2 a3 a4 a5 a6 a7 k, LeO (impl_keeps.f k a0 a1 a2 a3 a4 a5 a6 a7) (impl_keeps.f (k + 1) a0 a1 a2 a3 a4 a5 a6 a7) := by
 intro a0 a1 a2 a3 a4 a5 a6 a7 k
 unfold impl_keeps.f
 repeat' first
   | (with_reducible exact impl_moveBall.mono _ _ _ _ _ _ _ _ _)
   | (with_reducible exact LeO.refl _)
   | (with_reducible exact LeO.none _)
   | (with_reducible refine LeO.ite ?_ ?_)
   | (with_reducible refine LeO.bind ?_ (fun _ => ?_))
   | exact impl_moveBall.mono _ _ _ _ _ _ _ _ _
   | exact LeO.none _
   | refine LeO.ite ?_ ?_
   | refine LeO.bind ?_ (fun _ => ?_)
set_option maxHeartbeats 8000000 in
set_option maxRecDepth 100000 in
theorem impl_keeps.calls (k : Nat) (a0 : Int) (a1_0 : Int) (a1_1 : Int) (a1_2 : Int) (a1_3 : Int) (a2_0 : Int) (a2_1 : Int) (a2_2 : Int) (r : Bool) (w : World) (h : impl_keeps.f k a0 a1_0 a1_1 a1_2 a1_3 a2_0 a2_1 a2_2 = some r) :
  Calls Try.prog 66 #[.int .i64 a0, .agg #[.int .i64 a1_0, .int .i64 a1_1, .int .i64 a1_2, .int .i64 a1_3], .agg #[.int .i64 a2_0, .int .i64 a2_1, .int .i64 a2_2]] w fun e w' => e = .returned (.bool r) ∧ Below w.heap.size w w' := by
 have hu26 := Try.underlying26
 have hu39 := Try.underlying39
 have HB := Aside0.mk (Below.refl w.heap.size w)
 have H := h
 unfold impl_keeps.f at H
 clear h
 replace H := bS H
 obtain ⟨⟨t382, t383, t384, t385⟩, A4, H⟩ := H
 try dsimp only at H
 by_cases c5 : t385 = true
 ·
  subst c5
  rw [if_pos rfl] at H
  try dsimp only at H
  obtain rfl := Option.some.inj H
  go_enter Try.func66, Try.ntmps66
  go_wp2_with (first | ((with_reducible refine gate_dst (N := 4) rfl ?_); refine box_event ?hg (N := 4) ?hd (cs := #[.int .i64 a1_0, .int .i64 a1_1, .int .i64 a1_2, .int .i64 a1_3]) (t := 26) ?hr ?_; (case hd => rfl); (case hg => rfl); (case hr => first | (go_simp; done) | (go_simp; rfl)); intro gb380 hg w6 hbox hb; have n0_ := lB hb; have n1_ := Aside0.mk (hbox); have n2_ := sA hg; have n3_ := sA hg; clear HB; have HB := n0_; have BK380 := n1_; have GW380 := n2_; have GE380 := n3_; clear n0_ n1_ n2_ n3_; clear hb hbox hg) | ((with_reducible refine gate_dst (N := 5) rfl ?_); refine box_event ?hg (N := 5) ?hd (cs := #[.int .i64 a2_0, .int .i64 a2_1, .int .i64 a2_2]) (t := 39) ?hr ?_; (case hd => rfl); (case hg => rfl); (case hr => first | (go_simp; done) | (go_simp; rfl)); intro gb381 hg w7 hbox hb; have n0_ := kB BK380 hb; have n1_ := lB hb; have n2_ := Aside0.mk (hbox); have n3_ := sA hg; have n4_ := sA hg; have n5_ := nA hg BK380; have n6_ := nB hg BK380; clear BK380; clear HB; have BK380 := n0_; have HB := n1_; have BK381 := n2_; have GW381 := n3_; have GE381 := n4_; have NB380_381 := n5_; have NB381_380 := n6_; clear n0_ n1_ n2_ n3_ n4_ n5_ n6_; clear hb hbox hg; have hnb8 := NB380_381.out; have hnc8 := NB381_380.out; have hcz9_0 : w7.cell? ⟨gb380, 0, none⟩ = some (.int .i64 a1_0) := cA BK380 0; have hcz9_1 : w7.cell? ⟨gb380, 1, none⟩ = some (.int .i64 a1_1) := cA BK380 1; have hcz9_2 : w7.cell? ⟨gb380, 2, none⟩ = some (.int .i64 a1_2) := cA BK380 2; have hcz9_3 : w7.cell? ⟨gb380, 3, none⟩ = some (.int .i64 a1_3) := cA BK380 3; have hfz9_0 := blk_frozen BK380.out 0; have hfz9_1 := blk_frozen BK380.out 1; have hfz9_2 := blk_frozen BK380.out 2; have hfz9_3 := blk_frozen BK380.out 3; have hcz10_0 : w7.cell? ⟨gb381, 0, none⟩ = some (.int .i64 a2_0) := cA BK381 0; have hcz10_1 : w7.cell? ⟨gb381, 1, none⟩ = some (.int .i64 a2_1) := cA BK381 1; have hcz10_2 : w7.cell? ⟨gb381, 2, none⟩ = some (.int .i64 a2_2) := cA BK381 2; have hfz10_0 := blk_frozen BK381.out 0; have hfz10_1 := blk_frozen BK381.out 1; have hfz10_2 := blk_frozen BK381.out 2) | ((with_reducible refine gate_callee (f := 68) rfl ?_); refine goesL_ (some 13) rfl rfl Try.func68 (by kernel_rfl) rfl #[.int .i64 a0, .agg #[.int .i64 a1_0, .int .i64 a1_1, .int .i64 a1_2, .int .i64 a1_3], .agg #[.int .i64 a2_0, .int .i64 a2_1, .int .i64 a2_2]] rfl hA ?_; (with_reducible refine (impl_moveBall.calls k a0 a1_0 a1_1 a1_2 a1_3 a2_0 a2_1 a2_2 t382 t383 t384 true _ A4.out).mono ?_); rintro e w11 ⟨rfl, hb⟩; refine ⟨_, rfl, ?_⟩; have n0_ := kB BK380 hb; have n1_ := kB BK381 hb; have n2_ := lB hb; clear BK380; clear BK381; clear HB; have BK380 := n0_; have BK381 := n1_; have HB := n2_; clear n0_ n1_ n2_; (try clear hb); (try clear hb2); (try clear hk); (try clear hi)) | ((with_reducible refine gate_dst (N := 7) rfl ?_); refine box_event ?hg (N := 7) ?hd (cs := #[.int .i64 0, .int .i64 0, .int .i64 0]) (t := 39) ?hr ?_; (case hd => rfl); (case hg => rfl); (case hr => first | (go_simp; done) | (go_simp; rfl)); intro gb386 hg w12 hbox hb; have n0_ := kB BK380 hb; have n1_ := kB BK381 hb; have n2_ := lB hb; have n3_ := Aside0.mk (hbox); have n4_ := sA hg; have n5_ := sA hg; have n6_ := nA hg BK380; have n7_ := nB hg BK380; have n8_ := nA hg BK381; have n9_ := nB hg BK381; clear BK380; clear BK381; clear HB; have BK380 := n0_; have BK381 := n1_; have HB := n2_; have BK386 := n3_; have GW386 := n4_; have GE386 := n5_; have NB380_386 := n6_; have NB386_380 := n7_; have NB381_386 := n8_; have NB386_381 := n9_; clear n0_ n1_ n2_ n3_ n4_ n5_ n6_ n7_ n8_ n9_; clear hb hbox hg; have hnb13 := NB386_380.out; have hnc13 := NB380_386.out; have hnb14 := NB386_381.out; have hnc14 := NB381_386.out; have hcz15_0 : w12.cell? ⟨gb386, 0, none⟩ = some (.int .i64 0) := cA BK386 0; have hcz15_1 : w12.cell? ⟨gb386, 1, none⟩ = some (.int .i64 0) := cA BK386 1; have hcz15_2 : w12.cell? ⟨gb386, 2, none⟩ = some (.int .i64 0) := cA BK386 2; have hfz15_0 := blk_frozen BK386.out 0; have hfz15_1 := blk_frozen BK386.out 1; have hfz15_2 := blk_frozen BK386.out 2; have hcz16_0 : w12.cell? ⟨gb381, 0, none⟩ = some (.int .i64 a2_0) := cA BK381 0; have hcz16_1 : w12.cell? ⟨gb381, 1, none⟩ = some (.int .i64 a2_1) := cA BK381 1; have hcz16_2 : w12.cell? ⟨gb381, 2, none⟩ = some (.int .i64 a2_2) := cA BK381 2; have hfz16_0 := blk_frozen BK381.out 0; have hfz16_1 := blk_frozen BK381.out 1; have hfz16_2 := blk_frozen BK381.out 2))
  go_ret
  exact finA blA
 ·
  replace c5 := Bool.eq_false_iff.mpr c5
  subst c5
  rw [if_neg (show ¬ (false = true) by decide)] at H
  try dsimp only at H
  obtain rfl := Option.some.inj H
  go_enter Try.func66, Try.ntmps66
  go_wp2_with (first | ((with_reducible refine gate_dst (N := 4) rfl ?_); refine box_event ?hg (N := 4) ?hd (cs := #[.int .i64 a1_0, .int .i64 a1_1, .int .i64 a1_2, .int .i64 a1_3]) (t := 26) ?hr ?_; (case hd => rfl); (case hg => rfl); (case hr => first | (go_simp; done) | (go_simp; rfl)); intro gb380 hg w17 hbox hb; have n0_ := lB hb; have n1_ := Aside0.mk (hbox); have n2_ := sA hg; have n3_ := sA hg; clear HB; have HB := n0_; have BK380 := n1_; have GW380 := n2_; have GE380 := n3_; clear n0_ n1_ n2_ n3_; clear hb hbox hg) | ((with_reducible refine gate_dst (N := 5) rfl ?_); refine box_event ?hg (N := 5) ?hd (cs := #[.int .i64 a2_0, .int .i64 a2_1, .int .i64 a2_2]) (t := 39) ?hr ?_; (case hd => rfl); (case hg => rfl); (case hr => first | (go_simp; done) | (go_simp; rfl)); intro gb381 hg w18 hbox hb; have n0_ := kB BK380 hb; have n1_ := lB hb; have n2_ := Aside0.mk (hbox); have n3_ := sA hg; have n4_ := sA hg; have n5_ := nA hg BK380; have n6_ := nB hg BK380; clear BK380; clear HB; have BK380 := n0_; have HB := n1_; have BK381 := n2_; have GW381 := n3_; have GE381 := n4_; have NB380_381 := n5_; have NB381_380 := n6_; clear n0_ n1_ n2_ n3_ n4_ n5_ n6_; clear hb hbox hg; have hnb19 := NB380_381.out; have hnc19 := NB381_380.out; have hcz20_0 : w18.cell? ⟨gb380, 0, none⟩ = some (.int .i64 a1_0) := cA BK380 0; have hcz20_1 : w18.cell? ⟨gb380, 1, none⟩ = some (.int .i64 a1_1) := cA BK380 1; have hcz20_2 : w18.cell? ⟨gb380, 2, none⟩ = some (.int .i64 a1_2) := cA BK380 2; have hcz20_3 : w18.cell? ⟨gb380, 3, none⟩ = some (.int .i64 a1_3) := cA BK380 3; have hfz20_0 := blk_frozen BK380.out 0; have hfz20_1 := blk_frozen BK380.out 1; have hfz20_2 := blk_frozen BK380.out 2; have hfz20_3 := blk_frozen BK380.out 3; have hcz21_0 : w18.cell? ⟨gb381, 0, none⟩ = some (.int .i64 a2_0) := cA BK381 0; have hcz21_1 : w18.cell? ⟨gb381, 1, none⟩ = some (.int .i64 a2_1) := cA BK381 1; have hcz21_2 : w18.cell? ⟨gb381, 2, none⟩ = some (.int .i64 a2_2) := cA BK381 2; have hfz21_0 := blk_frozen BK381.out 0; have hfz21_1 := blk_frozen BK381.out 1; have hfz21_2 := blk_frozen BK381.out 2) | ((with_reducible refine gate_callee (f := 68) rfl ?_); refine goesL_ (some 13) rfl rfl Try.func68 (by kernel_rfl) rfl #[.int .i64 a0, .agg #[.int .i64 a1_0, .int .i64 a1_1, .int .i64 a1_2, .int .i64 a1_3], .agg #[.int .i64 a2_0, .int .i64 a2_1, .int .i64 a2_2]] rfl hA ?_; (with_reducible refine (impl_moveBall.calls k a0 a1_0 a1_1 a1_2 a1_3 a2_0 a2_1 a2_2 t382 t383 t384 false _ A4.out).mono ?_); rintro e w22 ⟨rfl, hb⟩; refine ⟨_, rfl, ?_⟩; have n0_ := kB BK380 hb; have n1_ := kB BK381 hb; have n2_ := lB hb; clear BK380; clear BK381; clear HB; have BK380 := n0_; have BK381 := n1_; have HB := n2_; clear n0_ n1_ n2_; (try clear hb); (try clear hb2); (try clear hk); (try clear hi)) | ((with_reducible refine gate_dst (N := 7) rfl ?_); refine box_event ?hg (N := 7) ?hd (cs := #[.int .i64 0, .int .i64 0, .int .i64 0]) (t := 39) ?hr ?_; (case hd => rfl); (case hg => rfl); (case hr => first | (go_simp; done) | (go_simp; rfl)); intro gb386 hg w23 hbox hb; have n0_ := kB BK380 hb; have n1_ := kB BK381 hb; have n2_ := lB hb; have n3_ := Aside0.mk (hbox); have n4_ := sA hg; have n5_ := sA hg; have n6_ := nA hg BK380; have n7_ := nB hg BK380; have n8_ := nA hg BK381; have n9_ := nB hg BK381; clear BK380; clear BK381; clear HB; have BK380 := n0_; have BK381 := n1_; have HB := n2_; have BK386 := n3_; have GW386 := n4_; have GE386 := n5_; have NB380_386 := n6_; have NB386_380 := n7_; have NB381_386 := n8_; have NB386_381 := n9_; clear n0_ n1_ n2_ n3_ n4_ n5_ n6_ n7_ n8_ n9_; clear hb hbox hg; have hnb24 := NB386_380.out; have hnc24 := NB380_386.out; have hnb25 := NB386_381.out; have hnc25 := NB381_386.out; have hcz26_0 : w23.cell? ⟨gb386, 0, none⟩ = some (.int .i64 0) := cA BK386 0; have hcz26_1 : w23.cell? ⟨gb386, 1, none⟩ = some (.int .i64 0) := cA BK386 1; have hcz26_2 : w23.cell? ⟨gb386, 2, none⟩ = some (.int .i64 0) := cA BK386 2; have hfz26_0 := blk_frozen BK386.out 0; have hfz26_1 := blk_frozen BK386.out 1; have hfz26_2 := blk_frozen BK386.out 2))
  go_ret
  exact finA blA
end Go.Proofs.Ytccpccnnbacgjaa.PAll
