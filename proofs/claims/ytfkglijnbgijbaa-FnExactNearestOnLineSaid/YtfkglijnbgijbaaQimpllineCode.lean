-- turned for this claim out of the kit's print: the same functions, packed anew
import Derived.Test.YtfkglijnbgijbaaQx
import Derived.Test.YtfkglijnbgijbaaQimplareEnds
import Derived.Test.YtfkglijnbgijbaaQimplmark
namespace Go.Proofs.Ytfkglijnbgijbaa.PAll
open Go.RowKit Go.Proofs.YtfkglijnbgijbaaW.PrintWords Go.Proofs.YtfkglijnbgijbaaW.PrintLast Go.Proofs.YtfkglijnbgijbaaW.PrintMore
attribute [local go_sem] Go.Proofs.Ytfkglijnbgijbaa.Aux.setCell_drewN Go.Proofs.Ytfkglijnbgijbaa.Aux.isSome_setCell max2_int min2_int max_two min_two max_three min_three max_four min_four   -- for this text's walks alone
set_option linter.unusedVariables false
set_option linter.unusedSimpArgs false
attribute [local go_sem high] eqA24
/-! ### impl_lineCode: function 63 -/
def impl_lineCode.j0 : Nat → Bool → Int → Int → Int → Int → Option (Int)
  | 0, _, _, _, _, _ => none
  | k + 1, x9, x279000, x279001, x280000, x280001 => if x9 = true then (some 1) else (if (x279000 == x280000 && (x279001 == x280001)) = true then (some 5) else (some 0))
def impl_lineCode.f (k : Nat) (a0 : Int) (a1_0 : Int) (a1_1 : Int) (a1_2 : Int) (a2_0 : Int) (a2_1 : Int) (a3_0 : Int) (a3_1 : Int) : Option (Int) := (impl_IsBall.f k a0 a1_0 a1_1 a1_2).bind fun t280 => (if t280 = true then ((impl_areEnds.f k (([(⟨a2_0, a2_1⟩ : S24), (⟨a3_0, a3_1⟩ : S24)] : List (S24)))).bind fun t284 => (impl_lineCode.j0 k (!t284) a2_0 a2_1 a3_0 a3_1)) else (impl_lineCode.j0 k true a2_0 a2_1 a3_0 a3_1))
theorem impl_lineCode.mono_l : ∀ k, (∀ y0 y1 y2 y3 y4, LeO (impl_lineCode.j0 k y0 y1 y2 y3 y4) (impl_lineCode.j0 (k + 1) y0 y1 y2 y3 y4))
  | 0 => fun _ _ _ _ _ r h => by simp [impl_lineCode.j0] at h
  | k + 1 => by
    have ih0 := impl_lineCode.mono_l k
    · intro y0 y1 y2 y3 y4
      unfold impl_lineCode.j0
      repeat' first
      | (with_reducible exact ih0 _ _ _ _ _)
      | (with_reducible exact impl_IsBall.mono _ _ _ _ _)
      | (with_reducible exact impl_areEnds.mono _ _)
      | (with_reducible exact LeO.refl _)
      | (with_reducible exact LeO.none _)
      | (with_reducible refine LeO.ite ?_ ?_)
      | (with_reducible refine LeO.bind ?_ (fun _ => ?_))
      | exact ih0 _ _ _ _ _
      | exact impl_IsBall.mono _ _ _ _ _
      | exact impl_areEnds.mono _ _
      | exact LeO.none _
      | refine LeO.ite ?_ ?_
      | refine LeO.bind ?_ (fun _ => ?_)
theorem impl_lineCode.mono : ∀ a0 a1 a2 a3 a4 a5 a6 a7 k, LeO (impl_lineCode.f k a0 a1 a2 a3 a4 a5 a6 a7) (impl_lineCode.f (k + 1) a0 a1 a2 a3 a4 a5 a6 a7) := by
  intro a0 a1 a2 a3 a4 a5 a6 a7 k
  have ih0 := impl_lineCode.mono_l k
  unfold impl_lineCode.f
  repeat' first
      | (with_reducible exact ih0 _ _ _ _ _)
      | (with_reducible exact impl_IsBall.mono _ _ _ _ _)
      | (with_reducible exact impl_areEnds.mono _ _)
      | (with_reducible exact LeO.refl _)
      | (with_reducible exact LeO.none _)
      | (with_reducible refine LeO.ite ?_ ?_)
      | (with_reducible refine LeO.bind ?_ (fun _ => ?_))
      | exact ih0 _ _ _ _ _
      | exact impl_IsBall.mono _ _ _ _ _
      | exact impl_areEnds.mono _ _
      | exact LeO.none _
      | refine LeO.ite ?_ ?_
      | refine LeO.bind ?_ (fun _ => ?_)
set_option maxHeartbeats 8000000 in
set_option maxRecDepth 100000 in
theorem impl_lineCode.calls (k : Nat) (a0 : Int) (a1_0 : Int) (a1_1 : Int) (a1_2 : Int) (a2_0 : Int) (a2_1 : Int) (a3_0 : Int) (a3_1 : Int) (r : Int) (w : World) (h : impl_lineCode.f k a0 a1_0 a1_1 a1_2 a2_0 a2_1 a3_0 a3_1 = some r) :
    Calls Try.prog 63 #[.int .i64 a0, .agg #[.int .i64 a1_0, .int .i64 a1_1, .int .i64 a1_2], .agg #[.int .i64 a2_0, .int .i64 a2_1], .agg #[.int .i64 a3_0, .int .i64 a3_1]] w fun e w' => e = .returned (.int .i64 r) ∧ Below w.heap.size w w' := by
  have hu34 := Try.underlying34
  have hu24 := Try.underlying24
  have HB := Aside0.mk (Below.refl w.heap.size w)
  have H : ((impl_IsBall.f k a0 a1_0 a1_1 a1_2).bind fun t280 => (if t280 = true then ((impl_areEnds.f k (([(⟨a2_0, a2_1⟩ : S24), (⟨a3_0, a3_1⟩ : S24)] : List (S24)))).bind fun t284 => (impl_lineCode.j0 k (!t284) a2_0 a2_1 a3_0 a3_1)) else (impl_lineCode.j0 k true a2_0 a2_1 a3_0 a3_1))) = some r := h
  clear h
  have HC5 := Aside0.mk H
  clear H
  go_enter Try.func63, Try.ntmps63
  go_upto_region 1 with (first | ((with_reducible refine gate_dst (N := 5) rfl ?_); (try (refine gate_guard (by rfl) ?_; dsimp only)); refine box_event ?hg (N := 5) ?hd (cs := #[.int .i64 a1_0, .int .i64 a1_1, .int .i64 a1_2]) (t := 34) ?hr ?_; (case hd => rfl); (case hg => rfl); (case hr => first | (go_simp; done) | (go_simp; rfl)); intro gb277 hg w6 hbox hb; have n0_ := Aside0.mk (below_step blA hb); have n1_ := Aside0.mk (hbox); have n2_ := Aside0.mk (szA hg blA); have n3_ := Aside0.mk (szA hg blA); clear HB; have HB := n0_; have BK277 := n1_; have GW277 := n2_; have GE277 := n3_; clear n0_ n1_ n2_ n3_; clear hb hbox hg) | ((with_reducible refine gate_dst (N := 6) rfl ?_); (try (refine gate_guard (by rfl) ?_; dsimp only)); refine box_event ?hg (N := 6) ?hd (cs := #[.int .i64 a2_0, .int .i64 a2_1]) (t := 24) ?hr ?_; (case hd => rfl); (case hg => rfl); (case hr => first | (go_simp; done) | (go_simp; rfl)); intro gb278 hg w7 hbox hb; have n0_ := Aside0.mk (blk_below (bkA BK277) hb); have n1_ := Aside0.mk (below_step blA hb); have n2_ := Aside0.mk (hbox); have n3_ := Aside0.mk (szA hg blA); have n4_ := Aside0.mk (szA hg blA); have n5_ := Aside0.mk (neA hg (bkA BK277)); have n6_ := Aside0.mk (neB hg (bkA BK277)); clear BK277; clear HB; have BK277 := n0_; have HB := n1_; have BK278 := n2_; have GW278 := n3_; have GE278 := n4_; have NB277_278 := n5_; have NB278_277 := n6_; clear n0_ n1_ n2_ n3_ n4_ n5_ n6_; clear hb hbox hg) | ((with_reducible refine gate_dst (N := 7) rfl ?_); (try (refine gate_guard (by rfl) ?_; dsimp only)); refine box_event ?hg (N := 7) ?hd (cs := #[.int .i64 a3_0, .int .i64 a3_1]) (t := 24) ?hr ?_; (case hd => rfl); (case hg => rfl); (case hr => first | (go_simp; done) | (go_simp; rfl)); intro gb279 hg w8 hbox hb; have n0_ := Aside0.mk (blk_below (bkA BK277) hb); have n1_ := Aside0.mk (blk_below (bkA BK278) hb); have n2_ := Aside0.mk (below_step blA hb); have n3_ := Aside0.mk (hbox); have n4_ := Aside0.mk (szA hg blA); have n5_ := Aside0.mk (szA hg blA); have n6_ := Aside0.mk (neA hg (bkA BK277)); have n7_ := Aside0.mk (neB hg (bkA BK277)); have n8_ := Aside0.mk (neA hg (bkA BK278)); have n9_ := Aside0.mk (neB hg (bkA BK278)); clear BK277; clear BK278; clear HB; have BK277 := n0_; have BK278 := n1_; have HB := n2_; have BK279 := n3_; have GW279 := n4_; have GE279 := n5_; have NB277_279 := n6_; have NB279_277 := n7_; have NB278_279 := n8_; have NB279_278 := n9_; clear n0_ n1_ n2_ n3_ n4_ n5_ n6_ n7_ n8_ n9_; clear hb hbox hg))
  (try simp only [Act.put, List.setIfInBounds_toArray, List.set_cons_zero, List.set_cons_succ])
  go_cut [9] (fun v9 wc => ∃ (kq : Nat) (x9_4 : Bool), v9 = .bool x9_4 ∧ Aside0 (impl_lineCode.j0 kq x9_4 a2_0 a2_1 a3_0 a3_1 = some r) ∧ Aside0 (kq ≤ k) ∧ Aside0 (wc.heap[gb277]? = some (.cells #[.int .i64 a1_0, .int .i64 a1_1, .int .i64 a1_2] 34 (0, 0))) ∧ Aside0 (wc.heap[gb278]? = some (.cells #[.int .i64 a2_0, .int .i64 a2_1] 24 (0, 0))) ∧ Aside0 (wc.heap[gb279]? = some (.cells #[.int .i64 a3_0, .int .i64 a3_1] 24 (0, 0))) ∧ Aside0 (Below w.heap.size w wc))
  case first =>
    have H := HC5.out
    clear HC5
    replace H := Option.bind_eq_some_iff.mp H
    obtain ⟨t280, A90, H⟩ := H
    replace H : (if t280 = true then ((impl_areEnds.f k (([(⟨a2_0, a2_1⟩ : S24), (⟨a3_0, a3_1⟩ : S24)] : List (S24)))).bind fun t284 => (impl_lineCode.j0 k (!t284) a2_0 a2_1 a3_0 a3_1)) else (impl_lineCode.j0 k true a2_0 a2_1 a3_0 a3_1)) = some r := H
    have A9 := Aside0.mk A90
    clear A90
    by_cases c10 : t280 = true
    · subst c10
      have H1 : ((impl_areEnds.f k (([(⟨a2_0, a2_1⟩ : S24), (⟨a3_0, a3_1⟩ : S24)] : List (S24)))).bind fun t284 => (impl_lineCode.j0 k (!t284) a2_0 a2_1 a3_0 a3_1)) = some r := by rw [if_pos rfl] at H; exact H
      clear H
      have H := H1
      clear H1
      obtain ⟨y281, hy281⟩ : ∃ y_ : List (S24), y_ = (([(⟨a2_0, a2_1⟩ : S24), (⟨a3_0, a3_1⟩ : S24)] : List (S24))) := ⟨_, rfl⟩
      replace H : ((impl_areEnds.f k y281).bind fun t284 => (impl_lineCode.j0 k (!t284) a2_0 a2_1 a3_0 a3_1)) = some r := by first | (rw [hy281]; with_reducible exact H) | (have H2_ := (Option.bind_some _ _).symm.trans H; rw [hy281]; with_reducible exact H2_) | (have H2_ := (Option.bind_some _ _).symm.trans H; with_reducible exact H2_) | with_reducible exact H | (rw [hy281]; exact H) | exact H
      have Ny281 := Aside0.mk hy281
      clear hy281
      replace H := Option.bind_eq_some_iff.mp H
      obtain ⟨t284, A110, H⟩ := H
      replace H : (impl_lineCode.j0 k (!t284) a2_0 a2_1 a3_0 a3_1) = some r := H
      have A11 := Aside0.mk A110
      clear A110
      have H' := Aside0.mk H
      clear H
      have hnb12 := NB277_278.out
      have hnc12 := NB278_277.out
      have hnb13 := NB277_279.out
      have hnc13 := NB279_277.out
      have hcz14_0 : w8.cell? ⟨gb277, 0, none⟩ = some (.int .i64 a1_0) := (blk_cell BK277.out 0).trans rfl
      have hcz14_1 : w8.cell? ⟨gb277, 1, none⟩ = some (.int .i64 a1_1) := (blk_cell BK277.out 1).trans rfl
      have hcz14_2 : w8.cell? ⟨gb277, 2, none⟩ = some (.int .i64 a1_2) := (blk_cell BK277.out 2).trans rfl
      have hfz14_0 := blk_frozen BK277.out 0
      have hfz14_1 := blk_frozen BK277.out 1
      have hfz14_2 := blk_frozen BK277.out 2
      go_wp2_with (first | ((with_reducible refine gate_callee (f := 77) rfl ?_); refine goesL_ (some 12) rfl rfl Try.func77 (by kernel_rfl) rfl #[.int .i64 a0, .agg #[.int .i64 a1_0, .int .i64 a1_1, .int .i64 a1_2]] rfl (by (try simp only [List.map_toArray, List.map_cons, List.map_nil]); first | done | rfl | (simp only [List.length_drop, List.length_take]; rfl)) ?_; (with_reducible refine (impl_IsBall.calls k a0 a1_0 a1_1 a1_2 true _ A9.out).mono ?_); rintro e w15 ⟨rfl, hb⟩; refine ⟨_, rfl, ?_⟩; have n0_ := Aside0.mk (blk_below (bkA BK277) hb); have n1_ := Aside0.mk (blk_below (bkA BK278) hb); have n2_ := Aside0.mk (blk_below (bkA BK279) hb); have n3_ := Aside0.mk (below_step blA hb); clear BK277; clear BK278; clear BK279; clear HB; have BK277 := n0_; have BK278 := n1_; have BK279 := n2_; have HB := n3_; clear n0_ n1_ n2_ n3_; (try clear hb); (try clear hb2); (try clear hk); (try clear hi); have hnb16 := NB278_279.out; have hnc16 := NB279_278.out; have hcz17_0 : w15.cell? ⟨gb278, 0, none⟩ = some (.int .i64 a2_0) := (blk_cell BK278.out 0).trans rfl; have hcz17_1 : w15.cell? ⟨gb278, 1, none⟩ = some (.int .i64 a2_1) := (blk_cell BK278.out 1).trans rfl; have hfz17_0 := blk_frozen BK278.out 0; have hfz17_1 := blk_frozen BK278.out 1; have hcz18_0 : w15.cell? ⟨gb279, 0, none⟩ = some (.int .i64 a3_0) := (blk_cell BK279.out 0).trans rfl; have hcz18_1 : w15.cell? ⟨gb279, 1, none⟩ = some (.int .i64 a3_1) := (blk_cell BK279.out 1).trans rfl; have hfz18_0 := blk_frozen BK279.out 0; have hfz18_1 := blk_frozen BK279.out 1) | ((with_reducible refine gate_dst (N := 17) rfl ?_); (try (refine gate_guard (by rfl) ?_; dsimp only)); refine Kd.R_lit k24 _ 24 ?hg (N := 17) ?hd (xs := ([(⟨a2_0, a2_1⟩ : S24), (⟨a3_0, a3_1⟩ : S24)] : List (S24))) (inner := [.int .i64 a2_0, .int .i64 a2_1, .int .i64 a3_0, .int .i64 a3_1]) (ok := fun _ => True) (okp := fun _ => True) ?hr ?hp (fun _ hk => hk) trivial (Below.refl _ _) (Nat.le_refl _) (by simp) ?_; (case hd => rfl); (case hg => rfl); (case hr => first | (go_simp; done) | (go_simp; rfl)); (case hp => exact (Reps.c2 (show Kd.M k24 _ _ _ (⟨a2_0, a2_1⟩ : S24) [.int .i64 a2_0, .int .i64 a2_1] from (k24_mkM _ _ _ (⟨a2_0, a2_1⟩ : S24) )) (Reps.c2 (show Kd.M k24 _ _ _ (⟨a3_0, a3_1⟩ : S24) [.int .i64 a3_0, .int .i64 a3_1] from (k24_mkM _ _ _ (⟨a3_0, a3_1⟩ : S24) )) (Reps.none _ _)))); intro v282 w19 ho20 hb hg_ hnew_; clear hg_ hnew_; (first | rw [← Ny281.out] at ho20 | (simp only [Int.reduceToNat] at ho20; rw [← Ny281.out] at ho20)); have n0_ := Aside0.mk (Kd.R_lower (Kd.R_newB (Kd.R_newB ho20 (bkA BK278)) (bkA BK279)) (below_size blA)); have n1_ := Aside0.mk (blk_below (bkA BK277) hb); have n2_ := Aside0.mk (blk_below (bkA BK278) hb); have n3_ := Aside0.mk (blk_below (bkA BK279) hb); have n4_ := Aside0.mk (below_step blA hb); clear BK277; clear BK278; clear BK279; clear HB; have HO283 := n0_; have BK277 := n1_; have BK278 := n2_; have BK279 := n3_; have HB := n4_; clear n0_ n1_ n2_ n3_ n4_; clear hb ho20; obtain ⟨Ao21, co21, eo21⟩ := Kd.R_slice HO283.out; subst eo21) | (go_at_call 117; (with_reducible refine (impl_areEnds.calls k _ _ y281 t284 _ ?side1 ?side2 A11.out).mono ?_); (case side1 => repeat (first | exact (Kd.R_reads' HO283.out).2.2 | (with_reducible refine Kd.C_alloc ?_ _) | (with_reducible refine Kd.C_drewN ?_ _) | (with_reducible refine Kd.C_drew ?_))); (case side2 => exact (Kd.R_reads' HO283.out).2.1); rintro e w22 ⟨rfl, hb⟩; have n0_ := Aside0.mk (Kd.R_below (by (with_reducible repeat (first | apply Kd.R_alloc | apply Kd.R_drewN | apply Kd.R_drew)); exact HO283.out) hb); have n1_ := Aside0.mk (blk_below (bkA BK277) hb); have n2_ := Aside0.mk (blk_below (bkA BK278) hb); have n3_ := Aside0.mk (blk_below (bkA BK279) hb); have n4_ := Aside0.mk (below_step blA hb); clear HO283; clear BK277; clear BK278; clear BK279; clear HB; have HO283 := n0_; have BK277 := n1_; have BK278 := n2_; have BK279 := n3_; have HB := n4_; clear n0_ n1_ n2_ n3_ n4_; (try clear hb); (try clear hb2); (try clear hk); (try clear hi)))
      go_meet
      case rel => exact ⟨_, (!t284), (by first | rfl | (simp; done) | (simp [*]; done)), H', ⟨by first | omega | exact Nat.le_refl _⟩, ⟨bkA BK277⟩, ⟨bkA BK278⟩, ⟨bkA BK279⟩, ⟨blA⟩⟩
    · replace c10 := Bool.eq_false_iff.mpr c10
      subst c10
      have H1 : (impl_lineCode.j0 k true a2_0 a2_1 a3_0 a3_1) = some r := by rw [if_neg (show ¬ (false = true) by decide)] at H; exact H
      clear H
      have H := H1
      clear H1
      have H' := Aside0.mk H
      clear H
      have hnb23 := NB277_278.out
      have hnc23 := NB278_277.out
      have hnb24 := NB277_279.out
      have hnc24 := NB279_277.out
      have hcz25_0 : w8.cell? ⟨gb277, 0, none⟩ = some (.int .i64 a1_0) := (blk_cell BK277.out 0).trans rfl
      have hcz25_1 : w8.cell? ⟨gb277, 1, none⟩ = some (.int .i64 a1_1) := (blk_cell BK277.out 1).trans rfl
      have hcz25_2 : w8.cell? ⟨gb277, 2, none⟩ = some (.int .i64 a1_2) := (blk_cell BK277.out 2).trans rfl
      have hfz25_0 := blk_frozen BK277.out 0
      have hfz25_1 := blk_frozen BK277.out 1
      have hfz25_2 := blk_frozen BK277.out 2
      go_wp2_with (first | ((with_reducible refine gate_callee (f := 77) rfl ?_); refine goesL_ (some 12) rfl rfl Try.func77 (by kernel_rfl) rfl #[.int .i64 a0, .agg #[.int .i64 a1_0, .int .i64 a1_1, .int .i64 a1_2]] rfl (by (try simp only [List.map_toArray, List.map_cons, List.map_nil]); first | done | rfl | (simp only [List.length_drop, List.length_take]; rfl)) ?_; (with_reducible refine (impl_IsBall.calls k a0 a1_0 a1_1 a1_2 false _ A9.out).mono ?_); rintro e w26 ⟨rfl, hb⟩; refine ⟨_, rfl, ?_⟩; have n0_ := Aside0.mk (blk_below (bkA BK277) hb); have n1_ := Aside0.mk (blk_below (bkA BK278) hb); have n2_ := Aside0.mk (blk_below (bkA BK279) hb); have n3_ := Aside0.mk (below_step blA hb); clear BK277; clear BK278; clear BK279; clear HB; have BK277 := n0_; have BK278 := n1_; have BK279 := n2_; have HB := n3_; clear n0_ n1_ n2_ n3_; (try clear hb); (try clear hb2); (try clear hk); (try clear hi)))
      go_meet
      case rel => exact ⟨_, (true), (by first | rfl | (simp; done) | (simp [*]; done)), H', ⟨by first | omega | exact Nat.le_refl _⟩, ⟨bkA BK277⟩, ⟨bkA BK278⟩, ⟨bkA BK279⟩, ⟨blA⟩⟩
  case rest =>
    clear HC5
    try clear c1
    try clear c2
    try clear p2
    try clear c6
    try clear c7
    try clear c10
    try clear c12
    try clear c13
    try clear c16
    try clear c23
    try clear c24
    try clear hcz14_0
    try clear hcz14_1
    try clear hcz14_2
    try clear hcz17_0
    try clear hcz17_1
    try clear hcz18_0
    try clear hcz18_1
    try clear hcz25_0
    try clear hcz25_1
    try clear hcz25_2
    try clear hfz14_0
    try clear hfz14_1
    try clear hfz14_2
    try clear hfz17_0
    try clear hfz17_1
    try clear hfz18_0
    try clear hfz18_1
    try clear hfz25_0
    try clear hfz25_1
    try clear hfz25_2
    obtain ⟨kq, x9_4, rfl, HA, HJ4, BK277, BK278, BK279, HB⟩ := hcut
    cases kq with
    | zero => exact absurd HA.out (by simp [impl_lineCode.j0])
    | succ kj4 =>
      have H := HA.out
      clear HA
      simp only [impl_lineCode.j0] at H
      by_cases c27 : x9_4 = true
      · subst c27
        have H1 : (some 1) = some r := by rw [if_pos rfl] at H; exact H
        clear H
        have H := H1
        clear H1
        obtain rfl := Option.some.inj H
        go_wp2
        go_ret
        exact ⟨by first | rfl | (simp [errW_none, errW_some] <;> rfl) | (simp [*, errW_none, errW_some] <;> rfl), blA⟩
      · replace c27 := Bool.eq_false_iff.mpr c27
        subst c27
        have H1 : (if (a2_0 == a3_0 && (a2_1 == a3_1)) = true then (some 5) else (some 0)) = some r := by rw [if_neg (show ¬ (false = true) by decide)] at H; exact H
        clear H
        have H := H1
        clear H1
        by_cases c28 : (a2_0 == a3_0 && (a2_1 == a3_1)) = true
        · rw [if_pos c28] at H
          have c28b0 : (a2_0 == a3_0 && (a2_1 == a3_1)) = true := c28
          (try (have c28b1 : decide (a2_0 = a3_0 && (a2_1 == a3_1)) = true := by simpa using c28))
          (try (have c28b2 : (a2_0 == a3_0 && (a2_1 == a3_1)) = true := by simpa using c28))
          clear c28
          obtain rfl := Option.some.inj H
          have hnb29 := NB278_277.out
          have hnc29 := NB277_278.out
          have hnb30 := NB278_279.out
          have hnc30 := NB279_278.out
          have hcz31_0 : wc.cell? ⟨gb278, 0, none⟩ = some (.int .i64 a2_0) := (blk_cell BK278.out 0).trans rfl
          have hcz31_1 : wc.cell? ⟨gb278, 1, none⟩ = some (.int .i64 a2_1) := (blk_cell BK278.out 1).trans rfl
          have hfz31_0 := blk_frozen BK278.out 0
          have hfz31_1 := blk_frozen BK278.out 1
          have hnb32 := NB279_277.out
          have hnc32 := NB277_279.out
          have hcz33_0 : wc.cell? ⟨gb279, 0, none⟩ = some (.int .i64 a3_0) := (blk_cell BK279.out 0).trans rfl
          have hcz33_1 : wc.cell? ⟨gb279, 1, none⟩ = some (.int .i64 a3_1) := (blk_cell BK279.out 1).trans rfl
          have hfz33_0 := blk_frozen BK279.out 0
          have hfz33_1 := blk_frozen BK279.out 1
          go_wp2
          go_ret
          exact ⟨by first | rfl | (simp [errW_none, errW_some] <;> rfl) | (simp [*, errW_none, errW_some] <;> rfl), blA⟩
        · rw [if_neg c28] at H
          have c28b0 : (a2_0 == a3_0 && (a2_1 == a3_1)) = false := by simpa using c28
          (try (have c28b1 : decide (a2_0 = a3_0 && (a2_1 == a3_1)) = false := by simpa using c28))
          (try (have c28b2 : (a2_0 == a3_0 && (a2_1 == a3_1)) = false := by simpa using c28))
          (try (have c28b3 : ¬ (a2_0 = a3_0 && (a2_1 == a3_1)) := by simpa using c28))
          clear c28
          obtain rfl := Option.some.inj H
          have hnb34 := NB278_277.out
          have hnc34 := NB277_278.out
          have hnb35 := NB278_279.out
          have hnc35 := NB279_278.out
          have hcz36_0 : wc.cell? ⟨gb278, 0, none⟩ = some (.int .i64 a2_0) := (blk_cell BK278.out 0).trans rfl
          have hcz36_1 : wc.cell? ⟨gb278, 1, none⟩ = some (.int .i64 a2_1) := (blk_cell BK278.out 1).trans rfl
          have hfz36_0 := blk_frozen BK278.out 0
          have hfz36_1 := blk_frozen BK278.out 1
          have hnb37 := NB279_277.out
          have hnc37 := NB277_279.out
          have hcz38_0 : wc.cell? ⟨gb279, 0, none⟩ = some (.int .i64 a3_0) := (blk_cell BK279.out 0).trans rfl
          have hcz38_1 : wc.cell? ⟨gb279, 1, none⟩ = some (.int .i64 a3_1) := (blk_cell BK279.out 1).trans rfl
          have hfz38_0 := blk_frozen BK279.out 0
          have hfz38_1 := blk_frozen BK279.out 1
          go_wp2
          go_ret
          exact ⟨by first | rfl | (simp [errW_none, errW_some] <;> rfl) | (simp [*, errW_none, errW_some] <;> rfl), blA⟩
end Go.Proofs.Ytfkglijnbgijbaa.PAll
