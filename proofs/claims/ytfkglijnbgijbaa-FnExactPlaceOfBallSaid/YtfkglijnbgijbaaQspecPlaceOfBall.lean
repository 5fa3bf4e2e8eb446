-- turned for this claim out of the kit's print: the same functions, packed anew
import Derived.Test.YtfkglijnbgijbaaQx
import Derived.Test.YtfkglijnbgijbaaQimplfirstChild
import Derived.Test.YtfkglijnbgijbaaQimplgeodesic
import Derived.Test.YtfkglijnbgijbaaQimpltoward
import Derived.Test.YtfkglijnbgijbaaQspecl01Code
namespace Go.Proofs.Ytfkglijnbgijbaa.PAll
open Go.RowKit Go.Proofs.YtfkglijnbgijbaaW.PrintWords Go.Proofs.YtfkglijnbgijbaaW.PrintLast Go.Proofs.YtfkglijnbgijbaaW.PrintMore
attribute [local go_sem] Go.Proofs.Ytfkglijnbgijbaa.Aux.setCell_drewN Go.Proofs.Ytfkglijnbgijbaa.Aux.isSome_setCell Go.Proofs.Ytfkglijnbgijbaa.Aux.max_eight max2_int min2_int max_two min_two max_three min_three max_four min_four   -- for this text's walks alone
set_option linter.unusedVariables false
set_option linter.unusedSimpArgs false
attribute [local go_sem high] eqA34
/-! ### spec_PlaceOfBall: function 24 -/
mutual
def spec_PlaceOfBall.l0 : Nat → Int → Int → Bool → Int → Int → Int → Int → Int → Int → Int → Int → Int → Option (Int × Int)
  | 0, _, _, _, _, _, _, _, _, _, _, _, _ => none
  | k + 1, x0, x9, x12, x457000, x457001, x457002, x463000, x463001, x463002, x464000, x464001, x464002 => if (!(x463000 == x457000) || (!(x463001 == x457001) || (!(x463002 == x457002)))) = true then ((spec_l07Child.f x0 x9).bind fun bt464 => (spec_PlaceOfBall.l1 k x0 x9 x12 bt464.1 bt464.2 0 x457000 x457001 x457002 x463000 x463001 x463002 x464000 x464001 x464002)) else (some (x9, 0))
def spec_PlaceOfBall.l1 : Nat → Int → Int → Bool → Int → Int → Int → Int → Int → Int → Int → Int → Int → Int → Int → Int → Option (Int × Int)
  | 0, _, _, _, _, _, _, _, _, _, _, _, _, _, _, _ => none
  | k + 1, x0, x9, x12, x13, x14, x15, x457000, x457001, x457002, x463000, x463001, x463002, x464000, x464001, x464002 => if x15 < x14 then ((spec_l07Next.f k x0 x463000 x463001 x463002 x464000 x464001 x464002 x12 x15).bind fun bt466 => (if bt466.2.2.2 = true then ((spec_l02Distance.f k x0 bt466.1 bt466.2.1 bt466.2.2.1 x457000 x457001 x457002).bind fun t471 => ((spec_l02Distance.f k x0 x463000 x463001 x463002 x457000 x457001 x457002).bind fun t472 => (if t471 < t472 then (spec_PlaceOfBall.l0 k x0 (wrap64 (x13 + x15)) true x457000 x457001 x457002 bt466.1 bt466.2.1 bt466.2.2.1 x463000 x463001 x463002) else (spec_PlaceOfBall.l1 k x0 x9 x12 x13 x14 (wrap64 (x15 + 1)) x457000 x457001 x457002 x463000 x463001 x463002 x464000 x464001 x464002)))) else (spec_PlaceOfBall.l1 k x0 x9 x12 x13 x14 (wrap64 (x15 + 1)) x457000 x457001 x457002 x463000 x463001 x463002 x464000 x464001 x464002))) else (spec_PlaceOfBall.l0 k x0 x9 x12 x457000 x457001 x457002 x463000 x463001 x463002 x464000 x464001 x464002)
end
def spec_PlaceOfBall.f (k : Nat) (a0 : Int) (a1_0 : Int) (a1_1 : Int) (a1_2 : Int) (a2_0 : Int) (a2_1 : Int) (a2_2 : Int) : Option (Int × Int) := (spec_l01Code.f k a0 (([(⟨a1_0, a1_1, a1_2⟩ : S34), (⟨a2_0, a2_1, a2_2⟩ : S34)] : List (S34)))).bind fun t460 => (if t460 = 0 then ((spec_l02Distance.f k a0 a1_0 a1_1 a1_2 a2_0 a2_1 a2_2).bind fun t461 => (if t461 > 4 then (some (0, 4)) else (spec_PlaceOfBall.l0 k a0 0 false a2_0 a2_1 a2_2 a1_0 a1_1 a1_2 0 0 0))) else (some (0, t460)))
theorem spec_PlaceOfBall.mono_l : ∀ k, (∀ y0 y1 y2 y3 y4 y5 y6 y7 y8 y9 y10 y11, LeO (spec_PlaceOfBall.l0 k y0 y1 y2 y3 y4 y5 y6 y7 y8 y9 y10 y11) (spec_PlaceOfBall.l0 (k + 1) y0 y1 y2 y3 y4 y5 y6 y7 y8 y9 y10 y11)) ∧ (∀ y0 y1 y2 y3 y4 y5 y6 y7 y8 y9 y10 y11 y12 y13 y14, LeO (spec_PlaceOfBall.l1 k y0 y1 y2 y3 y4 y5 y6 y7 y8 y9 y10 y11 y12 y13 y14) (spec_PlaceOfBall.l1 (k + 1) y0 y1 y2 y3 y4 y5 y6 y7 y8 y9 y10 y11 y12 y13 y14))
  | 0 => ⟨fun _ _ _ _ _ _ _ _ _ _ _ _ r h => by simp [spec_PlaceOfBall.l0] at h, fun _ _ _ _ _ _ _ _ _ _ _ _ _ _ _ r h => by simp [spec_PlaceOfBall.l1] at h⟩
  | k + 1 => by
    obtain ⟨ih0, ih1⟩ := spec_PlaceOfBall.mono_l k
    refine ⟨?_, ?_⟩
    · intro y0 y1 y2 y3 y4 y5 y6 y7 y8 y9 y10 y11
      unfold spec_PlaceOfBall.l0
      repeat' first
      | (with_reducible exact ih0 _ _ _ _ _ _ _ _ _ _ _ _)
      | (with_reducible exact ih1 _ _ _ _ _ _ _ _ _ _ _ _ _ _ _)
      | (with_reducible exact spec_l01Code.mono _ _ _)
      | (with_reducible exact spec_l02Distance.mono _ _ _ _ _ _ _ _)
      | (with_reducible exact spec_l07Next.mono _ _ _ _ _ _ _ _ _ _)
      | (with_reducible exact LeO.refl _)
      | (with_reducible exact LeO.none _)
      | (with_reducible refine LeO.ite ?_ ?_)
      | (with_reducible refine LeO.bind ?_ (fun _ => ?_))
      | exact ih0 _ _ _ _ _ _ _ _ _ _ _ _
      | exact ih1 _ _ _ _ _ _ _ _ _ _ _ _ _ _ _
      | exact spec_l01Code.mono _ _ _
      | exact spec_l02Distance.mono _ _ _ _ _ _ _ _
      | exact spec_l07Next.mono _ _ _ _ _ _ _ _ _ _
      | exact LeO.none _
      | refine LeO.ite ?_ ?_
      | refine LeO.bind ?_ (fun _ => ?_)
    · intro y0 y1 y2 y3 y4 y5 y6 y7 y8 y9 y10 y11 y12 y13 y14
      unfold spec_PlaceOfBall.l1
      repeat' first
      | (with_reducible exact ih0 _ _ _ _ _ _ _ _ _ _ _ _)
      | (with_reducible exact ih1 _ _ _ _ _ _ _ _ _ _ _ _ _ _ _)
      | (with_reducible exact spec_l01Code.mono _ _ _)
      | (with_reducible exact spec_l02Distance.mono _ _ _ _ _ _ _ _)
      | (with_reducible exact spec_l07Next.mono _ _ _ _ _ _ _ _ _ _)
      | (with_reducible exact LeO.refl _)
      | (with_reducible exact LeO.none _)
      | (with_reducible refine LeO.ite ?_ ?_)
      | (with_reducible refine LeO.bind ?_ (fun _ => ?_))
      | exact ih0 _ _ _ _ _ _ _ _ _ _ _ _
      | exact ih1 _ _ _ _ _ _ _ _ _ _ _ _ _ _ _
      | exact spec_l01Code.mono _ _ _
      | exact spec_l02Distance.mono _ _ _ _ _ _ _ _
      | exact spec_l07Next.mono _ _ _ _ _ _ _ _ _ _
      | exact LeO.none _
      | refine LeO.ite ?_ ?_
      | refine LeO.bind ?_ (fun _ => ?_)
theorem spec_PlaceOfBall.mono : ∀ a0 a1 a2 a3 a4 a5 a6 k, LeO (spec_PlaceOfBall.f k a0 a1 a2 a3 a4 a5 a6) (spec_PlaceOfBall.f (k + 1) a0 a1 a2 a3 a4 a5 a6) := by
  intro a0 a1 a2 a3 a4 a5 a6 k
  obtain ⟨ih0, ih1⟩ := spec_PlaceOfBall.mono_l k
  unfold spec_PlaceOfBall.f
  repeat' first
      | (with_reducible exact ih0 _ _ _ _ _ _ _ _ _ _ _ _)
      | (with_reducible exact ih1 _ _ _ _ _ _ _ _ _ _ _ _ _ _ _)
      | (with_reducible exact spec_l01Code.mono _ _ _)
      | (with_reducible exact spec_l02Distance.mono _ _ _ _ _ _ _ _)
      | (with_reducible exact spec_l07Next.mono _ _ _ _ _ _ _ _ _ _)
      | (with_reducible exact LeO.refl _)
      | (with_reducible exact LeO.none _)
      | (with_reducible refine LeO.ite ?_ ?_)
      | (with_reducible refine LeO.bind ?_ (fun _ => ?_))
      | exact ih0 _ _ _ _ _ _ _ _ _ _ _ _
      | exact ih1 _ _ _ _ _ _ _ _ _ _ _ _ _ _ _
      | exact spec_l01Code.mono _ _ _
      | exact spec_l02Distance.mono _ _ _ _ _ _ _ _
      | exact spec_l07Next.mono _ _ _ _ _ _ _ _ _ _
      | exact LeO.none _
      | refine LeO.ite ?_ ?_
      | refine LeO.bind ?_ (fun _ => ?_)
def spec_PlaceOfBall.T6 : Bool × List (List Nat × List Nat) := (true, [([], []), ([], []), ([], []), ([], []), ([2, 3], []), ([2, 0, 4, 0, 2, 3, 4], [0, 2]), ([3, 1, 5, 0, 1, 2, 3, 4, 5], [1, 3]), ([6, 0, 1, 2, 3, 4, 5, 6], [])])
def spec_PlaceOfBall.B6 : List Nat := [0, 0, 0, 0, 12, 29, 63, 127]
theorem spec_PlaceOfBall.tab6 : rtab .any (opsOf Try.f24 6) = spec_PlaceOfBall.T6 := by kernel_rfl
theorem spec_PlaceOfBall.bits6 : waitsOk spec_PlaceOfBall.T6.2 spec_PlaceOfBall.B6 = true := by kernel_rfl
def spec_PlaceOfBall.T13 : Bool × List (List Nat × List Nat) := (true, [([], []), ([0], [0]), ([1], [1]), ([1], [1]), ([1], [1]), ([2, 3, 4, 1, 1], [1, 2, 3, 4]), ([1], [1]), ([1], [1]), ([1], [1]), ([6, 7, 8, 5, 1], [1, 6, 7, 8]), ([5, 9, 1], [1, 5, 9]), ([1, 10], [1, 10])])
def spec_PlaceOfBall.B13 : List Nat := [0, 1, 3, 3, 3, 31, 3, 3, 3, 511, 1023, 2047]
theorem spec_PlaceOfBall.tab13 : rtab .any (opsOf Try.f24 13) = spec_PlaceOfBall.T13 := by kernel_rfl
theorem spec_PlaceOfBall.bits13 : waitsOk spec_PlaceOfBall.T13.2 spec_PlaceOfBall.B13 = true := by kernel_rfl
set_option maxHeartbeats 8000000 in
set_option maxRecDepth 100000 in
theorem spec_PlaceOfBall.calls (k : Nat) (a0 : Int) (a1_0 : Int) (a1_1 : Int) (a1_2 : Int) (a2_0 : Int) (a2_1 : Int) (a2_2 : Int) (r1 : Int) (r2 : Int) (w : World) (h : spec_PlaceOfBall.f k a0 a1_0 a1_1 a1_2 a2_0 a2_1 a2_2 = some (r1, r2)) :
    Calls Try.prog 24 #[.int .i64 a0, .agg #[.int .i64 a1_0, .int .i64 a1_1, .int .i64 a1_2], .agg #[.int .i64 a2_0, .int .i64 a2_1, .int .i64 a2_2]] w fun e w' => e = .returned (.tuple #[.int .i64 r1, .int .i64 r2]) ∧ Below w.heap.size w w' := by
  have hu34 := Try.underlying34
  have HB := Aside0.mk (Below.refl w.heap.size w)
  have H : ((spec_l01Code.f k a0 (([(⟨a1_0, a1_1, a1_2⟩ : S34), (⟨a2_0, a2_1, a2_2⟩ : S34)] : List (S34)))).bind fun t460 => (if t460 = 0 then ((spec_l02Distance.f k a0 a1_0 a1_1 a1_2 a2_0 a2_1 a2_2).bind fun t461 => (if t461 > 4 then (some (0, 4)) else (spec_PlaceOfBall.l0 k a0 0 false a2_0 a2_1 a2_2 a1_0 a1_1 a1_2 0 0 0))) else (some (0, t460)))) = some (r1, r2) := h
  clear h
  obtain ⟨y457, hy457⟩ : ∃ y_ : List (S34), y_ = (([(⟨a1_0, a1_1, a1_2⟩ : S34), (⟨a2_0, a2_1, a2_2⟩ : S34)] : List (S34))) := ⟨_, rfl⟩
  replace H : ((spec_l01Code.f k a0 y457).bind fun t460 => (if t460 = 0 then ((spec_l02Distance.f k a0 a1_0 a1_1 a1_2 a2_0 a2_1 a2_2).bind fun t461 => (if t461 > 4 then (some (0, 4)) else (spec_PlaceOfBall.l0 k a0 0 false a2_0 a2_1 a2_2 a1_0 a1_1 a1_2 0 0 0))) else (some (0, t460)))) = some (r1, r2) := by first | (rw [hy457]; with_reducible exact H) | (have H2_ := (Option.bind_some _ _).symm.trans H; rw [hy457]; with_reducible exact H2_) | (have H2_ := (Option.bind_some _ _).symm.trans H; with_reducible exact H2_) | with_reducible exact H | (rw [hy457]; exact H) | exact H
  have Ny457 := Aside0.mk hy457
  clear hy457
  replace H := Option.bind_eq_some_iff.mp H
  obtain ⟨t460, A40, H⟩ := H
  replace H : (if t460 = 0 then ((spec_l02Distance.f k a0 a1_0 a1_1 a1_2 a2_0 a2_1 a2_2).bind fun t461 => (if t461 > 4 then (some (0, 4)) else (spec_PlaceOfBall.l0 k a0 0 false a2_0 a2_1 a2_2 a1_0 a1_1 a1_2 0 0 0))) else (some (0, t460))) = some (r1, r2) := H
  have A4 := Aside0.mk A40
  clear A40
  by_cases c5 : t460 = 0
  · rw [if_pos c5] at H
    have c5b0 : (t460 == 0) = true := beq_iff_eq.mpr c5
    have c5b1 : (t460 != 0) = false := bne_eq_false_iff_eq.mpr c5
    clear c5
    replace H := Option.bind_eq_some_iff.mp H
    obtain ⟨t461, A60, H⟩ := H
    replace H : (if t461 > 4 then (some (0, 4)) else (spec_PlaceOfBall.l0 k a0 0 false a2_0 a2_1 a2_2 a1_0 a1_1 a1_2 0 0 0)) = some (r1, r2) := H
    have A6 := Aside0.mk A60
    clear A60
    by_cases c7 : t461 > 4
    · rw [if_pos c7] at H
      have c7b0 : decide (4 < t461) = true := decide_eq_true c7
      clear c7
      simp only [Option.some.injEq, Prod.mk.injEq] at H
      obtain ⟨rfl, rfl⟩ := H
      go_enter Try.func24, Try.ntmps24
      go_wp2_with (first | ((with_reducible refine gate_dst (N := 4) rfl ?_); refine box_event ?hg (N := 4) ?hd (cs := #[.int .i64 a1_0, .int .i64 a1_1, .int .i64 a1_2]) (t := 34) ?hr ?_; (case hd => rfl); (case hg => rfl); (case hr => first | (go_simp; done) | (go_simp; rfl)); intro gb455 hg w8 hbox hb; have n0_ := Aside0.mk (below_step blA hb); have n1_ := Aside0.mk (hbox); have n2_ := Aside0.mk (szA hg blA); have n3_ := Aside0.mk (szA hg blA); clear HB; have HB := n0_; have BK455 := n1_; have GW455 := n2_; have GE455 := n3_; clear n0_ n1_ n2_ n3_; clear hb hbox hg) | ((with_reducible refine gate_dst (N := 5) rfl ?_); refine box_event ?hg (N := 5) ?hd (cs := #[.int .i64 a2_0, .int .i64 a2_1, .int .i64 a2_2]) (t := 34) ?hr ?_; (case hd => rfl); (case hg => rfl); (case hr => first | (go_simp; done) | (go_simp; rfl)); intro gb456 hg w9 hbox hb; have n0_ := Aside0.mk (blk_below (bkA BK455) hb); have n1_ := Aside0.mk (below_step blA hb); have n2_ := Aside0.mk (hbox); have n3_ := Aside0.mk (szA hg blA); have n4_ := Aside0.mk (szA hg blA); have n5_ := Aside0.mk (neA hg (bkA BK455)); have n6_ := Aside0.mk (neB hg (bkA BK455)); clear BK455; clear HB; have BK455 := n0_; have HB := n1_; have BK456 := n2_; have GW456 := n3_; have GE456 := n4_; have NB455_456 := n5_; have NB456_455 := n6_; clear n0_ n1_ n2_ n3_ n4_ n5_ n6_; clear hb hbox hg; have hnb10 := NB455_456.out; have hnc10 := NB456_455.out; have hcz11_0 : w9.cell? ⟨gb455, 0, none⟩ = some (.int .i64 a1_0) := (blk_cell BK455.out 0).trans rfl; have hcz11_1 : w9.cell? ⟨gb455, 1, none⟩ = some (.int .i64 a1_1) := (blk_cell BK455.out 1).trans rfl; have hcz11_2 : w9.cell? ⟨gb455, 2, none⟩ = some (.int .i64 a1_2) := (blk_cell BK455.out 2).trans rfl; have hfz11_0 := blk_frozen BK455.out 0; have hfz11_1 := blk_frozen BK455.out 1; have hfz11_2 := blk_frozen BK455.out 2; have hcz12_0 : w9.cell? ⟨gb456, 0, none⟩ = some (.int .i64 a2_0) := (blk_cell BK456.out 0).trans rfl; have hcz12_1 : w9.cell? ⟨gb456, 1, none⟩ = some (.int .i64 a2_1) := (blk_cell BK456.out 1).trans rfl; have hcz12_2 : w9.cell? ⟨gb456, 2, none⟩ = some (.int .i64 a2_2) := (blk_cell BK456.out 2).trans rfl; have hfz12_0 := blk_frozen BK456.out 0; have hfz12_1 := blk_frozen BK456.out 1; have hfz12_2 := blk_frozen BK456.out 2) | ((with_reducible refine gate_dst (N := 21) rfl ?_); refine Kd.R_lit k34 _ 34 ?hg (N := 21) ?hd (xs := ([(⟨a1_0, a1_1, a1_2⟩ : S34), (⟨a2_0, a2_1, a2_2⟩ : S34)] : List (S34))) (inner := [.int .i64 a1_0, .int .i64 a1_1, .int .i64 a1_2, .int .i64 a2_0, .int .i64 a2_1, .int .i64 a2_2]) (ok := fun _ => True) (okp := fun _ => True) ?hr ?hp (fun _ hk => hk) trivial (Below.refl _ _) (Nat.le_refl _) (by simp) ?_; (case hd => rfl); (case hg => rfl); (case hr => first | (go_simp; done) | (go_simp; rfl)); (case hp => exact (Reps.c3 (show Kd.M k34 _ _ _ (⟨a1_0, a1_1, a1_2⟩ : S34) [.int .i64 a1_0, .int .i64 a1_1, .int .i64 a1_2] from (k34_mkM _ _ _ (⟨a1_0, a1_1, a1_2⟩ : S34) )) (Reps.c3 (show Kd.M k34 _ _ _ (⟨a2_0, a2_1, a2_2⟩ : S34) [.int .i64 a2_0, .int .i64 a2_1, .int .i64 a2_2] from (k34_mkM _ _ _ (⟨a2_0, a2_1, a2_2⟩ : S34) )) (Reps.none _ _)))); intro v458 w13 ho14 hb hg_ hnew_; clear hg_ hnew_; (first | rw [← Ny457.out] at ho14 | (simp only [Int.reduceToNat] at ho14; rw [← Ny457.out] at ho14)); have n0_ := Aside0.mk (Kd.R_lower (Kd.R_newB (Kd.R_newB ho14 (bkA BK455)) (bkA BK456)) (below_size blA)); have n1_ := Aside0.mk (blk_below (bkA BK455) hb); have n2_ := Aside0.mk (blk_below (bkA BK456) hb); have n3_ := Aside0.mk (below_step blA hb); clear BK455; clear BK456; clear HB; have HO459 := n0_; have BK455 := n1_; have BK456 := n2_; have HB := n3_; clear n0_ n1_ n2_ n3_; clear hb ho14; obtain ⟨Ao15, co15, eo15⟩ := Kd.R_slice HO459.out; subst eo15) | ((with_reducible refine gate_callee (f := 65) rfl ?_); refine goesL_ (some 22) rfl rfl Try.func65 (by kernel_rfl) rfl #[.int .i64 a0, .slice Ao15 y457.length co15] rfl (by (try simp only [List.map_toArray, List.map_cons, List.map_nil]); first | done | rfl | (simp only [List.length_drop, List.length_take]; rfl)) ?_; (with_reducible refine (spec_l01Code.calls k a0 _ _ y457 t460 _ ?side1 ?side2 A4.out).mono ?_); (case side1 => repeat (first | exact (Kd.R_reads' HO459.out).2.2 | (with_reducible refine Kd.C_alloc ?_ _) | (with_reducible refine Kd.C_drewN ?_ _) | (with_reducible refine Kd.C_drew ?_))); (case side2 => exact (Kd.R_reads' HO459.out).2.1); rintro e w16 ⟨rfl, hb⟩; refine ⟨_, rfl, ?_⟩; have n0_ := Aside0.mk (Kd.R_below (by (with_reducible repeat (first | apply Kd.R_alloc | apply Kd.R_drewN | apply Kd.R_drew)); exact HO459.out) hb); have n1_ := Aside0.mk (blk_below (bkA BK455) hb); have n2_ := Aside0.mk (blk_below (bkA BK456) hb); have n3_ := Aside0.mk (below_step blA hb); clear HO459; clear BK455; clear BK456; clear HB; have HO459 := n0_; have BK455 := n1_; have BK456 := n2_; have HB := n3_; clear n0_ n1_ n2_ n3_; (try clear hb); (try clear hb2); (try clear hk); (try clear hi); have hcz17_0 : w16.cell? ⟨gb455, 0, none⟩ = some (.int .i64 a1_0) := (blk_cell BK455.out 0).trans rfl; have hcz17_1 : w16.cell? ⟨gb455, 1, none⟩ = some (.int .i64 a1_1) := (blk_cell BK455.out 1).trans rfl; have hcz17_2 : w16.cell? ⟨gb455, 2, none⟩ = some (.int .i64 a1_2) := (blk_cell BK455.out 2).trans rfl; have hfz17_0 := blk_frozen BK455.out 0; have hfz17_1 := blk_frozen BK455.out 1; have hfz17_2 := blk_frozen BK455.out 2; have hcz18_0 : w16.cell? ⟨gb456, 0, none⟩ = some (.int .i64 a2_0) := (blk_cell BK456.out 0).trans rfl; have hcz18_1 : w16.cell? ⟨gb456, 1, none⟩ = some (.int .i64 a2_1) := (blk_cell BK456.out 1).trans rfl; have hcz18_2 : w16.cell? ⟨gb456, 2, none⟩ = some (.int .i64 a2_2) := (blk_cell BK456.out 2).trans rfl; have hfz18_0 := blk_frozen BK456.out 0; have hfz18_1 := blk_frozen BK456.out 1; have hfz18_2 := blk_frozen BK456.out 2) | ((with_reducible refine gate_callee (f := 66) rfl ?_); refine goesL_ (some 29) rfl rfl Try.func66 (by kernel_rfl) rfl #[.int .i64 a0, .agg #[.int .i64 a1_0, .int .i64 a1_1, .int .i64 a1_2], .agg #[.int .i64 a2_0, .int .i64 a2_1, .int .i64 a2_2]] rfl (by (try simp only [List.map_toArray, List.map_cons, List.map_nil]); first | done | rfl | (simp only [List.length_drop, List.length_take]; rfl)) ?_; (with_reducible refine (spec_l02Distance.calls k a0 a1_0 a1_1 a1_2 a2_0 a2_1 a2_2 t461 _ A6.out).mono ?_); rintro e w19 ⟨rfl, hb⟩; refine ⟨_, rfl, ?_⟩; have n0_ := Aside0.mk (Kd.R_below (by (with_reducible repeat (first | apply Kd.R_alloc | apply Kd.R_drewN | apply Kd.R_drew)); exact HO459.out) hb); have n1_ := Aside0.mk (blk_below (bkA BK455) hb); have n2_ := Aside0.mk (blk_below (bkA BK456) hb); have n3_ := Aside0.mk (below_step blA hb); clear HO459; clear BK455; clear BK456; clear HB; have HO459 := n0_; have BK455 := n1_; have BK456 := n2_; have HB := n3_; clear n0_ n1_ n2_ n3_; (try clear hb); (try clear hb2); (try clear hk); (try clear hi)))
      go_ret2
      exact ⟨by first | rfl | (simp [errW_none, errW_some] <;> rfl) | (simp [*, errW_none, errW_some] <;> rfl), blA⟩
    · rw [if_neg c7] at H
      have c7b0 : decide (4 < t461) = false := decide_eq_false c7
      clear c7
      have H' := Aside0.mk H
      clear H
      go_enter Try.func24, Try.ntmps24
      try go_wp2_with (first | ((with_reducible refine gate_dst (N := 4) rfl ?_); refine box_event ?hg (N := 4) ?hd (cs := #[.int .i64 a1_0, .int .i64 a1_1, .int .i64 a1_2]) (t := 34) ?hr ?_; (case hd => rfl); (case hg => rfl); (case hr => first | (go_simp; done) | (go_simp; rfl)); intro gb455 hg w20 hbox hb; have n0_ := Aside0.mk (below_step blA hb); have n1_ := Aside0.mk (hbox); have n2_ := Aside0.mk (szA hg blA); have n3_ := Aside0.mk (szA hg blA); clear HB; have HB := n0_; have BK455 := n1_; have GW455 := n2_; have GE455 := n3_; clear n0_ n1_ n2_ n3_; clear hb hbox hg) | ((with_reducible refine gate_dst (N := 5) rfl ?_); refine box_event ?hg (N := 5) ?hd (cs := #[.int .i64 a2_0, .int .i64 a2_1, .int .i64 a2_2]) (t := 34) ?hr ?_; (case hd => rfl); (case hg => rfl); (case hr => first | (go_simp; done) | (go_simp; rfl)); intro gb456 hg w21 hbox hb; have n0_ := Aside0.mk (blk_below (bkA BK455) hb); have n1_ := Aside0.mk (below_step blA hb); have n2_ := Aside0.mk (hbox); have n3_ := Aside0.mk (szA hg blA); have n4_ := Aside0.mk (szA hg blA); have n5_ := Aside0.mk (neA hg (bkA BK455)); have n6_ := Aside0.mk (neB hg (bkA BK455)); clear BK455; clear HB; have BK455 := n0_; have HB := n1_; have BK456 := n2_; have GW456 := n3_; have GE456 := n4_; have NB455_456 := n5_; have NB456_455 := n6_; clear n0_ n1_ n2_ n3_ n4_ n5_ n6_; clear hb hbox hg; have hnb22 := NB455_456.out; have hnc22 := NB456_455.out; have hcz23_0 : w21.cell? ⟨gb455, 0, none⟩ = some (.int .i64 a1_0) := (blk_cell BK455.out 0).trans rfl; have hcz23_1 : w21.cell? ⟨gb455, 1, none⟩ = some (.int .i64 a1_1) := (blk_cell BK455.out 1).trans rfl; have hcz23_2 : w21.cell? ⟨gb455, 2, none⟩ = some (.int .i64 a1_2) := (blk_cell BK455.out 2).trans rfl; have hfz23_0 := blk_frozen BK455.out 0; have hfz23_1 := blk_frozen BK455.out 1; have hfz23_2 := blk_frozen BK455.out 2; have hcz24_0 : w21.cell? ⟨gb456, 0, none⟩ = some (.int .i64 a2_0) := (blk_cell BK456.out 0).trans rfl; have hcz24_1 : w21.cell? ⟨gb456, 1, none⟩ = some (.int .i64 a2_1) := (blk_cell BK456.out 1).trans rfl; have hcz24_2 : w21.cell? ⟨gb456, 2, none⟩ = some (.int .i64 a2_2) := (blk_cell BK456.out 2).trans rfl; have hfz24_0 := blk_frozen BK456.out 0; have hfz24_1 := blk_frozen BK456.out 1; have hfz24_2 := blk_frozen BK456.out 2) | ((with_reducible refine gate_dst (N := 21) rfl ?_); refine Kd.R_lit k34 _ 34 ?hg (N := 21) ?hd (xs := ([(⟨a1_0, a1_1, a1_2⟩ : S34), (⟨a2_0, a2_1, a2_2⟩ : S34)] : List (S34))) (inner := [.int .i64 a1_0, .int .i64 a1_1, .int .i64 a1_2, .int .i64 a2_0, .int .i64 a2_1, .int .i64 a2_2]) (ok := fun _ => True) (okp := fun _ => True) ?hr ?hp (fun _ hk => hk) trivial (Below.refl _ _) (Nat.le_refl _) (by simp) ?_; (case hd => rfl); (case hg => rfl); (case hr => first | (go_simp; done) | (go_simp; rfl)); (case hp => exact (Reps.c3 (show Kd.M k34 _ _ _ (⟨a1_0, a1_1, a1_2⟩ : S34) [.int .i64 a1_0, .int .i64 a1_1, .int .i64 a1_2] from (k34_mkM _ _ _ (⟨a1_0, a1_1, a1_2⟩ : S34) )) (Reps.c3 (show Kd.M k34 _ _ _ (⟨a2_0, a2_1, a2_2⟩ : S34) [.int .i64 a2_0, .int .i64 a2_1, .int .i64 a2_2] from (k34_mkM _ _ _ (⟨a2_0, a2_1, a2_2⟩ : S34) )) (Reps.none _ _)))); intro v458 w25 ho26 hb hg_ hnew_; clear hg_ hnew_; (first | rw [← Ny457.out] at ho26 | (simp only [Int.reduceToNat] at ho26; rw [← Ny457.out] at ho26)); have n0_ := Aside0.mk (Kd.R_lower (Kd.R_newB (Kd.R_newB ho26 (bkA BK455)) (bkA BK456)) (below_size blA)); have n1_ := Aside0.mk (blk_below (bkA BK455) hb); have n2_ := Aside0.mk (blk_below (bkA BK456) hb); have n3_ := Aside0.mk (below_step blA hb); clear BK455; clear BK456; clear HB; have HO459 := n0_; have BK455 := n1_; have BK456 := n2_; have HB := n3_; clear n0_ n1_ n2_ n3_; clear hb ho26; obtain ⟨Ao27, co27, eo27⟩ := Kd.R_slice HO459.out; subst eo27) | ((with_reducible refine gate_callee (f := 65) rfl ?_); refine goesL_ (some 22) rfl rfl Try.func65 (by kernel_rfl) rfl #[.int .i64 a0, .slice Ao27 y457.length co27] rfl (by (try simp only [List.map_toArray, List.map_cons, List.map_nil]); first | done | rfl | (simp only [List.length_drop, List.length_take]; rfl)) ?_; (with_reducible refine (spec_l01Code.calls k a0 _ _ y457 t460 _ ?side1 ?side2 A4.out).mono ?_); (case side1 => repeat (first | exact (Kd.R_reads' HO459.out).2.2 | (with_reducible refine Kd.C_alloc ?_ _) | (with_reducible refine Kd.C_drewN ?_ _) | (with_reducible refine Kd.C_drew ?_))); (case side2 => exact (Kd.R_reads' HO459.out).2.1); rintro e w28 ⟨rfl, hb⟩; refine ⟨_, rfl, ?_⟩; have n0_ := Aside0.mk (Kd.R_below (by (with_reducible repeat (first | apply Kd.R_alloc | apply Kd.R_drewN | apply Kd.R_drew)); exact HO459.out) hb); have n1_ := Aside0.mk (blk_below (bkA BK455) hb); have n2_ := Aside0.mk (blk_below (bkA BK456) hb); have n3_ := Aside0.mk (below_step blA hb); clear HO459; clear BK455; clear BK456; clear HB; have HO459 := n0_; have BK455 := n1_; have BK456 := n2_; have HB := n3_; clear n0_ n1_ n2_ n3_; (try clear hb); (try clear hb2); (try clear hk); (try clear hi); have hcz29_0 : w28.cell? ⟨gb455, 0, none⟩ = some (.int .i64 a1_0) := (blk_cell BK455.out 0).trans rfl; have hcz29_1 : w28.cell? ⟨gb455, 1, none⟩ = some (.int .i64 a1_1) := (blk_cell BK455.out 1).trans rfl; have hcz29_2 : w28.cell? ⟨gb455, 2, none⟩ = some (.int .i64 a1_2) := (blk_cell BK455.out 2).trans rfl; have hfz29_0 := blk_frozen BK455.out 0; have hfz29_1 := blk_frozen BK455.out 1; have hfz29_2 := blk_frozen BK455.out 2; have hcz30_0 : w28.cell? ⟨gb456, 0, none⟩ = some (.int .i64 a2_0) := (blk_cell BK456.out 0).trans rfl; have hcz30_1 : w28.cell? ⟨gb456, 1, none⟩ = some (.int .i64 a2_1) := (blk_cell BK456.out 1).trans rfl; have hcz30_2 : w28.cell? ⟨gb456, 2, none⟩ = some (.int .i64 a2_2) := (blk_cell BK456.out 2).trans rfl; have hfz30_0 := blk_frozen BK456.out 0; have hfz30_1 := blk_frozen BK456.out 1; have hfz30_2 := blk_frozen BK456.out 2) | ((with_reducible refine gate_callee (f := 66) rfl ?_); refine goesL_ (some 29) rfl rfl Try.func66 (by kernel_rfl) rfl #[.int .i64 a0, .agg #[.int .i64 a1_0, .int .i64 a1_1, .int .i64 a1_2], .agg #[.int .i64 a2_0, .int .i64 a2_1, .int .i64 a2_2]] rfl (by (try simp only [List.map_toArray, List.map_cons, List.map_nil]); first | done | rfl | (simp only [List.length_drop, List.length_take]; rfl)) ?_; (with_reducible refine (spec_l02Distance.calls k a0 a1_0 a1_1 a1_2 a2_0 a2_1 a2_2 t461 _ A6.out).mono ?_); rintro e w31 ⟨rfl, hb⟩; refine ⟨_, rfl, ?_⟩; have n0_ := Aside0.mk (Kd.R_below (by (with_reducible repeat (first | apply Kd.R_alloc | apply Kd.R_drewN | apply Kd.R_drew)); exact HO459.out) hb); have n1_ := Aside0.mk (blk_below (bkA BK455) hb); have n2_ := Aside0.mk (blk_below (bkA BK456) hb); have n3_ := Aside0.mk (below_step blA hb); clear HO459; clear BK455; clear BK456; clear HB; have HO459 := n0_; have BK455 := n1_; have BK456 := n2_; have HB := n3_; clear n0_ n1_ n2_ n3_; (try clear hb); (try clear hb2); (try clear hk); (try clear hi)))
      have n0_ := Aside0.mk (Kd.R_drew HO459.out)
      have n1_ := Aside0.mk (blk_drew BK455.out)
      have n2_ := Aside0.mk (blk_drew BK456.out)
      have n3_ := Aside0.mk (below_drew1 HB.out)
      clear HO459
      clear BK455
      clear BK456
      clear HB
      have HO459 := n0_
      have BK455 := n1_
      have BK456 := n2_
      have HB := n3_
      clear n0_ n1_ n2_ n3_
      refine start_ (n := 8) (S := fun w' => w'.cell? ⟨gb455, 0, none⟩ = some (.int .i64 a1_0) ∧ w'.cell? ⟨gb455, 1, none⟩ = some (.int .i64 a1_1) ∧ w'.cell? ⟨gb455, 2, none⟩ = some (.int .i64 a1_2)) (ds := []) #[false, false, false, false, false, false, false, false] (by kernel_rfl) rfl rfl ⟨(blk_cell BK455.out 0).trans rfl, (blk_cell BK455.out 1).trans rfl, (blk_cell BK455.out 2).trans rfl⟩ (fun hHeld => ?_); refine with_tabW spec_PlaceOfBall.tab6 spec_PlaceOfBall.bits6 (fun HT_ HW_ => ?_)
      generalize w31.drew = w32 at HO459 BK455 BK456 HB hHeld ⊢
      refine pure_ (i := 1) (N := some 32) (v := ?_) (a' := ?_) #[false, true, false, false, false, false, false, false] rfl rfl (any_of HT_.out (by kernel_rfl)) (fun _ _ _ h => h) (Or.inl ⟨by rfl, ?_⟩) ?_ ?_
      rotate_left
      · intro w'
        go_simp
        with_reducible rfl
      rotate_left
      · simp only [Act.put, List.setIfInBounds_toArray, List.set_cons_zero, List.set_cons_succ, i64_w, i32_w]
        rfl
      refine take_ (i := 0) (N := some 31) (v := ?_) (a' := ?_) #[true, true, false, false, false, false, false, false] rfl rfl (take_ofW HT_.out HW_.out (by kernel_rfl)) (fun _ _ _ h => h) (Or.inl ⟨by rfl, ?_⟩) hHeld ?_ ?_
      rotate_left
      · rintro w' ⟨s0, s1, s2⟩
        go_simp
        with_reducible rfl
      rotate_left
      · simp only [Act.put, List.setIfInBounds_toArray, List.set_cons_zero, List.set_cons_succ, i64_w, i32_w]
        rfl
      refine join_ (σ := Nat × Nat) 4 #[true, true, true, true, false, false, false, false] (fun s_ => [(10, .pointer (some ⟨s_.1, 0, none⟩)), (11, .pointer (some ⟨s_.2, 0, none⟩))]) (fun s_ w' => (w'.cell? ⟨gb455, 0, none⟩ = some (.int .i64 a1_0) ∧ w'.cell? ⟨gb455, 1, none⟩ = some (.int .i64 a1_1) ∧ w'.cell? ⟨gb455, 2, none⟩ = some (.int .i64 a1_2)) ∧ (Kd.R k34 34 w' w.heap.size (fun k_ => k_ ≠ gb455 ∧ k_ ≠ gb456 ∧ k_ ≠ s_.1 ∧ k_ ≠ s_.2) (.slice Ao27 y457.length co27) y457) ∧ (w'.heap[gb455]? = some (.cells #[.int .i64 a1_0, .int .i64 a1_1, .int .i64 a1_2] 34 (0, 0))) ∧ (w'.heap[gb456]? = some (.cells #[.int .i64 a2_0, .int .i64 a2_1, .int .i64 a2_2] 34 (0, 0))) ∧ (w'.heap[s_.1]? = some (.cells #[.int .i64 0, .int .i64 0, .int .i64 0] 34 (0, 0))) ∧ (w'.heap[s_.2]? = some (.cells #[.int .i64 0, .int .i64 0, .int .i64 0] 34 (0, 0))) ∧ (w.heap.size ≤ s_.1) ∧ (w.heap.size ≤ s_.1) ∧ (gb455 ≠ s_.1) ∧ (s_.1 ≠ gb455) ∧ (gb456 ≠ s_.1) ∧ (s_.1 ≠ gb456) ∧ (s_.2 ≠ s_.1) ∧ (s_.1 ≠ s_.2) ∧ (w.heap.size ≤ s_.2) ∧ (w.heap.size ≤ s_.2) ∧ (gb455 ≠ s_.2) ∧ (s_.2 ≠ gb455) ∧ (gb456 ≠ s_.2) ∧ (s_.2 ≠ gb456) ∧ (Below w.heap.size w w')) ?_ ?_
      rotate_left
      · intro hCont
        refine two_ (i := 2) (j := 3) (Ni := some 10) (Nj := some 11) #[true, true, true, false, false, false, false, false] #[true, true, false, true, false, false, false, false] rfl rfl rfl rfl (two_of HT_.out (by kernel_rfl)) (by decide) (by decide) (fun K hK => ?_) (fun K hK => ?_)
        · skip
          refine box_step ?hg (N := 10) ?hd (cs := #[.int .i64 0, .int .i64 0, .int .i64 0]) (t := 34) ?hr ?_; (case hd => rfl); (case hg => rfl); (case hr => first | (go_simp; done) | (go_simp; rfl))
          intro gb462 hg w33 hbox hb
          have n0_ := Aside0.mk (Kd.R_below (Kd.R_elderB (by (with_reducible repeat (first | apply Kd.R_alloc | apply Kd.R_drewN | apply Kd.R_drew)); exact HO459.out) gb462 (Nat.le_of_eq hg.symm)) hb)
          have n1_ := Aside0.mk (blk_below (bkA BK455) hb)
          have n2_ := Aside0.mk (blk_below (bkA BK456) hb)
          have n3_ := Aside0.mk (below_step blA hb)
          have n4_ := Aside0.mk (hbox)
          have n5_ := Aside0.mk (szA hg blA)
          have n6_ := Aside0.mk (szA hg blA)
          have n7_ := Aside0.mk (neA hg (bkA BK455))
          have n8_ := Aside0.mk (neB hg (bkA BK455))
          have n9_ := Aside0.mk (neA hg (bkA BK456))
          have n10_ := Aside0.mk (neB hg (bkA BK456))
          clear HO459
          clear BK455
          clear BK456
          clear HB
          have HO459 := n0_
          have BK455 := n1_
          have BK456 := n2_
          have HB := n3_
          have BK462 := n4_
          have GW462 := n5_
          have GE462 := n6_
          have NB455_462 := n7_
          have NB462_455 := n8_
          have NB456_462 := n9_
          have NB462_456 := n10_
          clear n0_ n1_ n2_ n3_ n4_ n5_ n6_ n7_ n8_ n9_ n10_
          clear hb hbox hg
          refine hK.out _ _ ⟨(blk_cell BK455.out 0).trans rfl, (blk_cell BK455.out 1).trans rfl, (blk_cell BK455.out 2).trans rfl⟩ (fun hHeld => ?_)
          clear hK K
          refine norm_ (a' := ?_) ?_ ?_
          rotate_left
          · show Act.put _ (some 10) _ = _
            simp only [Act.put, List.setIfInBounds_toArray, List.set_cons_zero, List.set_cons_succ, i64_w, i32_w]
            rfl
          refine one_ (i := 3) (N := some 11) #[true, true, true, true, false, false, false, false] rfl rfl (one_of HT_.out (by kernel_rfl)) (by decide) (fun K hK => ?_)
          refine box_step ?hg (N := 11) ?hd (cs := #[.int .i64 0, .int .i64 0, .int .i64 0]) (t := 34) ?hr ?_; (case hd => rfl); (case hg => rfl); (case hr => first | (go_simp; done) | (go_simp; rfl))
          intro gb463 hg w34 hbox hb
          have n0_ := Aside0.mk (Kd.R_below (Kd.R_elderB (by (with_reducible repeat (first | apply Kd.R_alloc | apply Kd.R_drewN | apply Kd.R_drew)); exact HO459.out) gb463 (Nat.le_of_eq hg.symm)) hb)
          have n1_ := Aside0.mk (blk_below (bkA BK455) hb)
          have n2_ := Aside0.mk (blk_below (bkA BK456) hb)
          have n3_ := Aside0.mk (blk_below (bkA BK462) hb)
          have n4_ := Aside0.mk (below_step blA hb)
          have n5_ := Aside0.mk (hbox)
          have n6_ := Aside0.mk (szA hg blA)
          have n7_ := Aside0.mk (szA hg blA)
          have n8_ := Aside0.mk (neA hg (bkA BK455))
          have n9_ := Aside0.mk (neB hg (bkA BK455))
          have n10_ := Aside0.mk (neA hg (bkA BK456))
          have n11_ := Aside0.mk (neB hg (bkA BK456))
          have n12_ := Aside0.mk (neA hg (bkA BK462))
          have n13_ := Aside0.mk (neB hg (bkA BK462))
          clear HO459
          clear BK455
          clear BK456
          clear BK462
          clear HB
          have HO459 := n0_
          have BK455 := n1_
          have BK456 := n2_
          have BK462 := n3_
          have HB := n4_
          have BK463 := n5_
          have GW463 := n6_
          have GE463 := n7_
          have NB455_463 := n8_
          have NB463_455 := n9_
          have NB456_463 := n10_
          have NB463_456 := n11_
          have NB462_463 := n12_
          have NB463_462 := n13_
          clear n0_ n1_ n2_ n3_ n4_ n5_ n6_ n7_ n8_ n9_ n10_ n11_ n12_ n13_
          clear hb hbox hg
          refine hK.out _ _ ⟨(blk_cell BK455.out 0).trans rfl, (blk_cell BK455.out 1).trans rfl, (blk_cell BK455.out 2).trans rfl⟩ (fun hHeld => ?_)
          clear hK K
          refine norm_ (a' := ?_) ?_ ?_
          rotate_left
          · show Act.put _ (some 11) _ = _
            simp only [Act.put, List.setIfInBounds_toArray, List.set_cons_zero, List.set_cons_succ, i64_w, i32_w]
            rfl
          exact norm_ (by simp only [putAll, Act.put, List.setIfInBounds_toArray, List.set_cons_zero, List.set_cons_succ]) (hCont (gb462, gb463) _ ⟨hHeld, (by (with_reducible repeat (first | apply Kd.R_alloc | apply Kd.R_drewN | apply Kd.R_drew)); exact Kd.R_mono HO459.out (fun _ hk => ⟨hk.1.1.1.2, ⟨hk.1.1.2, ⟨hk.1.2, hk.2⟩⟩⟩)), (bkA BK455), (bkA BK456), (bkA BK462), (bkA BK463), GW462.out, GE462.out, NB455_462.out, NB462_455.out, NB456_462.out, NB462_456.out, NB463_462.out, NB462_463.out, GW463.out, GE463.out, NB455_463.out, NB463_455.out, NB456_463.out, NB463_456.out, blA⟩)
        · skip
          refine box_step ?hg (N := 11) ?hd (cs := #[.int .i64 0, .int .i64 0, .int .i64 0]) (t := 34) ?hr ?_; (case hd => rfl); (case hg => rfl); (case hr => first | (go_simp; done) | (go_simp; rfl))
          intro gb463 hg w33 hbox hb
          have n0_ := Aside0.mk (Kd.R_below (Kd.R_elderB (by (with_reducible repeat (first | apply Kd.R_alloc | apply Kd.R_drewN | apply Kd.R_drew)); exact HO459.out) gb463 (Nat.le_of_eq hg.symm)) hb)
          have n1_ := Aside0.mk (blk_below (bkA BK455) hb)
          have n2_ := Aside0.mk (blk_below (bkA BK456) hb)
          have n3_ := Aside0.mk (below_step blA hb)
          have n4_ := Aside0.mk (hbox)
          have n5_ := Aside0.mk (szA hg blA)
          have n6_ := Aside0.mk (szA hg blA)
          have n7_ := Aside0.mk (neA hg (bkA BK455))
          have n8_ := Aside0.mk (neB hg (bkA BK455))
          have n9_ := Aside0.mk (neA hg (bkA BK456))
          have n10_ := Aside0.mk (neB hg (bkA BK456))
          clear HO459
          clear BK455
          clear BK456
          clear HB
          have HO459 := n0_
          have BK455 := n1_
          have BK456 := n2_
          have HB := n3_
          have BK463 := n4_
          have GW463 := n5_
          have GE463 := n6_
          have NB455_463 := n7_
          have NB463_455 := n8_
          have NB456_463 := n9_
          have NB463_456 := n10_
          clear n0_ n1_ n2_ n3_ n4_ n5_ n6_ n7_ n8_ n9_ n10_
          clear hb hbox hg
          refine hK.out _ _ ⟨(blk_cell BK455.out 0).trans rfl, (blk_cell BK455.out 1).trans rfl, (blk_cell BK455.out 2).trans rfl⟩ (fun hHeld => ?_)
          clear hK K
          refine norm_ (a' := ?_) ?_ ?_
          rotate_left
          · show Act.put _ (some 11) _ = _
            simp only [Act.put, List.setIfInBounds_toArray, List.set_cons_zero, List.set_cons_succ, i64_w, i32_w]
            rfl
          refine one_ (i := 2) (N := some 10) #[true, true, true, true, false, false, false, false] rfl rfl (one_of HT_.out (by kernel_rfl)) (by decide) (fun K hK => ?_)
          refine box_step ?hg (N := 10) ?hd (cs := #[.int .i64 0, .int .i64 0, .int .i64 0]) (t := 34) ?hr ?_; (case hd => rfl); (case hg => rfl); (case hr => first | (go_simp; done) | (go_simp; rfl))
          intro gb462 hg w34 hbox hb
          have n0_ := Aside0.mk (Kd.R_below (Kd.R_elderB (by (with_reducible repeat (first | apply Kd.R_alloc | apply Kd.R_drewN | apply Kd.R_drew)); exact HO459.out) gb462 (Nat.le_of_eq hg.symm)) hb)
          have n1_ := Aside0.mk (blk_below (bkA BK455) hb)
          have n2_ := Aside0.mk (blk_below (bkA BK456) hb)
          have n3_ := Aside0.mk (blk_below (bkA BK463) hb)
          have n4_ := Aside0.mk (below_step blA hb)
          have n5_ := Aside0.mk (hbox)
          have n6_ := Aside0.mk (szA hg blA)
          have n7_ := Aside0.mk (szA hg blA)
          have n8_ := Aside0.mk (neA hg (bkA BK455))
          have n9_ := Aside0.mk (neB hg (bkA BK455))
          have n10_ := Aside0.mk (neA hg (bkA BK456))
          have n11_ := Aside0.mk (neB hg (bkA BK456))
          have n12_ := Aside0.mk (neA hg (bkA BK463))
          have n13_ := Aside0.mk (neB hg (bkA BK463))
          clear HO459
          clear BK455
          clear BK456
          clear BK463
          clear HB
          have HO459 := n0_
          have BK455 := n1_
          have BK456 := n2_
          have BK463 := n3_
          have HB := n4_
          have BK462 := n5_
          have GW462 := n6_
          have GE462 := n7_
          have NB455_462 := n8_
          have NB462_455 := n9_
          have NB456_462 := n10_
          have NB462_456 := n11_
          have NB463_462 := n12_
          have NB462_463 := n13_
          clear n0_ n1_ n2_ n3_ n4_ n5_ n6_ n7_ n8_ n9_ n10_ n11_ n12_ n13_
          clear hb hbox hg
          refine hK.out _ _ ⟨(blk_cell BK455.out 0).trans rfl, (blk_cell BK455.out 1).trans rfl, (blk_cell BK455.out 2).trans rfl⟩ (fun hHeld => ?_)
          clear hK K
          refine norm_ (a' := ?_) ?_ ?_
          rotate_left
          · show Act.put _ (some 10) _ = _
            simp only [Act.put, List.setIfInBounds_toArray, List.set_cons_zero, List.set_cons_succ, i64_w, i32_w]
            rfl
          exact norm_ (by simp only [putAll, Act.put, List.setIfInBounds_toArray, List.set_cons_zero, List.set_cons_succ]) (hCont (gb462, gb463) _ ⟨hHeld, (by (with_reducible repeat (first | apply Kd.R_alloc | apply Kd.R_drewN | apply Kd.R_drew)); exact Kd.R_mono HO459.out (fun _ hk => ⟨hk.1.1.1.2, ⟨hk.1.1.2, ⟨hk.2, hk.1.2⟩⟩⟩)), (bkA BK455), (bkA BK456), (bkA BK462), (bkA BK463), GW462.out, GE462.out, NB455_462.out, NB462_455.out, NB456_462.out, NB462_456.out, NB463_462.out, NB462_463.out, GW463.out, GE463.out, NB455_463.out, NB463_455.out, NB456_463.out, NB463_456.out, blA⟩)
      rintro ⟨gb462, gb463⟩ w35 ⟨hS_, h0_, h1_, h2_, h3_, h4_, h5_, h6_, h7_, h8_, h9_, h10_, h11_, h12_, h13_, h14_, h15_, h16_, h17_, h18_, h19_⟩
      have n0_ : Aside0 (Kd.R k34 34 w35 w.heap.size (fun k_ => k_ ≠ gb455 ∧ k_ ≠ gb456 ∧ k_ ≠ gb462 ∧ k_ ≠ gb463) (.slice Ao27 y457.length co27) y457) := ⟨h0_⟩
      have n1_ : Aside0 (w35.heap[gb455]? = some (.cells #[.int .i64 a1_0, .int .i64 a1_1, .int .i64 a1_2] 34 (0, 0))) := ⟨h1_⟩
      have n2_ : Aside0 (w35.heap[gb456]? = some (.cells #[.int .i64 a2_0, .int .i64 a2_1, .int .i64 a2_2] 34 (0, 0))) := ⟨h2_⟩
      have n3_ : Aside0 (w35.heap[gb462]? = some (.cells #[.int .i64 0, .int .i64 0, .int .i64 0] 34 (0, 0))) := ⟨h3_⟩
      have n4_ : Aside0 (w35.heap[gb463]? = some (.cells #[.int .i64 0, .int .i64 0, .int .i64 0] 34 (0, 0))) := ⟨h4_⟩
      have n5_ : Aside0 (w.heap.size ≤ gb462) := ⟨h5_⟩
      have n6_ : Aside0 (w.heap.size ≤ gb462) := ⟨h6_⟩
      have n7_ : Aside0 (gb455 ≠ gb462) := ⟨h7_⟩
      have n8_ : Aside0 (gb462 ≠ gb455) := ⟨h8_⟩
      have n9_ : Aside0 (gb456 ≠ gb462) := ⟨h9_⟩
      have n10_ : Aside0 (gb462 ≠ gb456) := ⟨h10_⟩
      have n11_ : Aside0 (gb463 ≠ gb462) := ⟨h11_⟩
      have n12_ : Aside0 (gb462 ≠ gb463) := ⟨h12_⟩
      have n13_ : Aside0 (w.heap.size ≤ gb463) := ⟨h13_⟩
      have n14_ : Aside0 (w.heap.size ≤ gb463) := ⟨h14_⟩
      have n15_ : Aside0 (gb455 ≠ gb463) := ⟨h15_⟩
      have n16_ : Aside0 (gb463 ≠ gb455) := ⟨h16_⟩
      have n17_ : Aside0 (gb456 ≠ gb463) := ⟨h17_⟩
      have n18_ : Aside0 (gb463 ≠ gb456) := ⟨h18_⟩
      have n19_ : Aside0 (Below w.heap.size w w35) := ⟨h19_⟩
      clear HO459
      clear BK455
      clear BK456
      clear HB
      clear h0_ h1_ h2_ h3_ h4_ h5_ h6_ h7_ h8_ h9_ h10_ h11_ h12_ h13_ h14_ h15_ h16_ h17_ h18_ h19_
      have HO459 := n0_
      have BK455 := n1_
      have BK456 := n2_
      have BK462 := n3_
      have BK463 := n4_
      have GW462 := n5_
      have GE462 := n6_
      have NB455_462 := n7_
      have NB462_455 := n8_
      have NB456_462 := n9_
      have NB462_456 := n10_
      have NB463_462 := n11_
      have NB462_463 := n12_
      have GW463 := n13_
      have GE463 := n14_
      have NB455_463 := n15_
      have NB463_455 := n16_
      have NB456_463 := n17_
      have NB463_456 := n18_
      have HB := n19_
      clear n0_ n1_ n2_ n3_ n4_ n5_ n6_ n7_ n8_ n9_ n10_ n11_ n12_ n13_ n14_ n15_ n16_ n17_ n18_ n19_
      have hHeld : w35.cell? ⟨gb455, 0, none⟩ = some (.int .i64 a1_0) ∧ w35.cell? ⟨gb455, 1, none⟩ = some (.int .i64 a1_1) ∧ w35.cell? ⟨gb455, 2, none⟩ = some (.int .i64 a1_2) := hS_
      refine norm_ (a' := ?_) ?_ ?_
      rotate_left
      · simp only [putAll, Act.put, List.setIfInBounds_toArray, List.set_cons_zero, List.set_cons_succ]
        rfl
      refine pure_ (i := 4) (N := some 9) (v := ?_) (a' := ?_) #[true, true, true, true, true, false, false, false] rfl rfl (any_of HT_.out (by kernel_rfl)) (fun _ _ _ h => h) (Or.inl ⟨by rfl, ?_⟩) ?_ ?_
      rotate_left
      · intro w'
        go_simp
        with_reducible rfl
      rotate_left
      · simp only [Act.put, List.setIfInBounds_toArray, List.set_cons_zero, List.set_cons_succ, i64_w, i32_w]
        rfl
      refine one_ (i := 5) (N := none) #[true, true, true, true, true, true, false, false] rfl rfl (one_of HT_.out (by kernel_rfl)) (by decide) (fun K hK => ?_)
      have hs36 : w35.cell? ⟨gb462, 0, none⟩ = some (.int .i64 0) := (blk_cell BK462.out 0).trans rfl
      have hfs36 := blk_frozen BK462.out 0
      have hns36_0 := NB455_462.out
      have hns36_1 := NB456_462.out
      have hns36_3 := NB463_462.out
      have hms36_0 := NB462_455.out
      have hms36_1 := NB462_456.out
      have hms36_3 := NB462_463.out
      have hs37 : w35.cell? ⟨gb462, 1, none⟩ = some (.int .i64 0) := (blk_cell BK462.out 1).trans rfl
      have hfs37 := blk_frozen BK462.out 1
      have hns37_0 := NB455_462.out
      have hns37_1 := NB456_462.out
      have hns37_3 := NB463_462.out
      have hms37_0 := NB462_455.out
      have hms37_1 := NB462_456.out
      have hms37_3 := NB462_463.out
      have hs38 : w35.cell? ⟨gb462, 2, none⟩ = some (.int .i64 0) := (blk_cell BK462.out 2).trans rfl
      have hfs38 := blk_frozen BK462.out 2
      have hns38_0 := NB455_462.out
      have hns38_1 := NB456_462.out
      have hns38_3 := NB463_462.out
      have hms38_0 := NB462_455.out
      have hms38_1 := NB462_456.out
      have hms38_3 := NB462_463.out
      refine skip_ (w1 := ?_) (by rfl) rfl ?_ ?_
      rotate_left
      · go_simp
        rfl
      refine hK.out _ _ ⟨((cell_far (p := ⟨gb462, _, none⟩) NB455_462.out _).trans (((cell_far (p := ⟨gb462, _, none⟩) NB455_462.out _).trans (((cell_far (p := ⟨gb462, _, none⟩) NB455_462.out _).trans (hHeld.1)))))), ((cell_far (p := ⟨gb462, _, none⟩) NB455_462.out _).trans (((cell_far (p := ⟨gb462, _, none⟩) NB455_462.out _).trans (((cell_far (p := ⟨gb462, _, none⟩) NB455_462.out _).trans (hHeld.2.1)))))), ((cell_far (p := ⟨gb462, _, none⟩) NB455_462.out _).trans (((cell_far (p := ⟨gb462, _, none⟩) NB455_462.out _).trans (((cell_far (p := ⟨gb462, _, none⟩) NB455_462.out _).trans (hHeld.2.2))))))⟩ (fun hHeld => ?_)
      clear hK K
      refine one_ (i := 6) (N := none) #[true, true, true, true, true, true, true, false] rfl rfl (one_of HT_.out (by kernel_rfl)) (by decide) (fun K hK => ?_)
      have hs39 : w35.cell? ⟨gb463, 0, none⟩ = some (.int .i64 0) := (blk_cell BK463.out 0).trans rfl
      have hfs39 := blk_frozen BK463.out 0
      have hns39_0 := NB455_463.out
      have hns39_1 := NB456_463.out
      have hns39_2 := NB462_463.out
      have hms39_0 := NB463_455.out
      have hms39_1 := NB463_456.out
      have hms39_2 := NB463_462.out
      have hs40 : w35.cell? ⟨gb463, 1, none⟩ = some (.int .i64 0) := (blk_cell BK463.out 1).trans rfl
      have hfs40 := blk_frozen BK463.out 1
      have hns40_0 := NB455_463.out
      have hns40_1 := NB456_463.out
      have hns40_2 := NB462_463.out
      have hms40_0 := NB463_455.out
      have hms40_1 := NB463_456.out
      have hms40_2 := NB463_462.out
      have hs41 : w35.cell? ⟨gb463, 2, none⟩ = some (.int .i64 0) := (blk_cell BK463.out 2).trans rfl
      have hfs41 := blk_frozen BK463.out 2
      have hns41_0 := NB455_463.out
      have hns41_1 := NB456_463.out
      have hns41_2 := NB462_463.out
      have hms41_0 := NB463_455.out
      have hms41_1 := NB463_456.out
      have hms41_2 := NB463_462.out
      refine skip_ (w1 := ?_) (by rfl) rfl ?_ ?_
      rotate_left
      · go_simp
        rfl
      refine hK.out _ _ ⟨((cell_far (p := ⟨gb463, _, none⟩) NB455_463.out _).trans (((cell_far (p := ⟨gb463, _, none⟩) NB455_463.out _).trans (((cell_far (p := ⟨gb463, _, none⟩) NB455_463.out _).trans (hHeld.1)))))), ((cell_far (p := ⟨gb463, _, none⟩) NB455_463.out _).trans (((cell_far (p := ⟨gb463, _, none⟩) NB455_463.out _).trans (((cell_far (p := ⟨gb463, _, none⟩) NB455_463.out _).trans (hHeld.2.1)))))), ((cell_far (p := ⟨gb463, _, none⟩) NB455_463.out _).trans (((cell_far (p := ⟨gb463, _, none⟩) NB455_463.out _).trans (((cell_far (p := ⟨gb463, _, none⟩) NB455_463.out _).trans (hHeld.2.2))))))⟩ (fun hHeld => ?_)
      clear hK K
      refine pure_ (i := 7) (N := some 12) (v := ?_) (a' := ?_) #[true, true, true, true, true, true, true, true] rfl rfl (any_of HT_.out (by kernel_rfl)) (fun _ _ _ h => h) (Or.inl ⟨by rfl, ?_⟩) ?_ ?_
      rotate_left
      · intro w'
        go_simp
        with_reducible rfl
      rotate_left
      · simp only [Act.put, List.setIfInBounds_toArray, List.set_cons_zero, List.set_cons_succ, i64_w, i32_w]
        rfl
      refine done_ (done_of HT_.out (by kernel_rfl)) ?_
      try go_wp2
      go_loopg [9, 12] k (fun kq v9 v12 w' => ∃ (x9_1 : Int) (x12_1 : Bool) (x463000_1 : Int) (x463001_1 : Int) (x463002_1 : Int) (x464000_1 : Int) (x464001_1 : Int) (x464002_1 : Int), v9 = .int .i64 x9_1 ∧ v12 = .bool x12_1 ∧ Aside0 (spec_PlaceOfBall.l0 kq a0 x9_1 x12_1 a2_0 a2_1 a2_2 x463000_1 x463001_1 x463002_1 x464000_1 x464001_1 x464002_1 = some (r1, r2)) ∧ Aside0 (kq ≤ k) ∧ Aside0 (w'.heap[gb455]? = some (.cells #[.int .i64 a1_0, .int .i64 a1_1, .int .i64 a1_2] 34 (0, 0))) ∧ Aside0 (w'.heap[gb456]? = some (.cells #[.int .i64 a2_0, .int .i64 a2_1, .int .i64 a2_2] 34 (0, 0))) ∧ Aside0 (w'.heap[gb462]? = some (.cells #[.int .i64 x463000_1, .int .i64 x463001_1, .int .i64 x463002_1] 34 (0, 0))) ∧ Aside0 (w'.heap[gb463]? = some (.cells #[.int .i64 x464000_1, .int .i64 x464001_1, .int .i64 x464002_1] 34 (0, 0))) ∧ Aside0 (Below w.heap.size w w'))
      case atStart => exact ⟨(0), (false), (a1_0), (a1_1), (a1_2), (0), (0), (0), (by first | rfl | (simp; done) | (simp [*]; done)), (by first | rfl | (simp; done) | (simp [*]; done)), H', ⟨Nat.le_refl _⟩, ⟨by (with_reducible repeat (first | refine blk_drewN ?_ _ | refine blk_drew ?_ | refine blk_alloc ?_ _)); refine blk_far ?_ NB455_463.out _; (with_reducible repeat (first | refine blk_drewN ?_ _ | refine blk_drew ?_ | refine blk_alloc ?_ _)); refine blk_far ?_ NB455_463.out _; (with_reducible repeat (first | refine blk_drewN ?_ _ | refine blk_drew ?_ | refine blk_alloc ?_ _)); refine blk_far ?_ NB455_463.out _; (with_reducible repeat (first | refine blk_drewN ?_ _ | refine blk_drew ?_ | refine blk_alloc ?_ _)); refine blk_far ?_ NB455_462.out _; (with_reducible repeat (first | refine blk_drewN ?_ _ | refine blk_drew ?_ | refine blk_alloc ?_ _)); refine blk_far ?_ NB455_462.out _; (with_reducible repeat (first | refine blk_drewN ?_ _ | refine blk_drew ?_ | refine blk_alloc ?_ _)); refine blk_far ?_ NB455_462.out _; (with_reducible repeat (first | refine blk_drewN ?_ _ | refine blk_drew ?_ | refine blk_alloc ?_ _)); exact BK455.out⟩, ⟨by (with_reducible repeat (first | refine blk_drewN ?_ _ | refine blk_drew ?_ | refine blk_alloc ?_ _)); refine blk_far ?_ NB456_463.out _; (with_reducible repeat (first | refine blk_drewN ?_ _ | refine blk_drew ?_ | refine blk_alloc ?_ _)); refine blk_far ?_ NB456_463.out _; (with_reducible repeat (first | refine blk_drewN ?_ _ | refine blk_drew ?_ | refine blk_alloc ?_ _)); refine blk_far ?_ NB456_463.out _; (with_reducible repeat (first | refine blk_drewN ?_ _ | refine blk_drew ?_ | refine blk_alloc ?_ _)); refine blk_far ?_ NB456_462.out _; (with_reducible repeat (first | refine blk_drewN ?_ _ | refine blk_drew ?_ | refine blk_alloc ?_ _)); refine blk_far ?_ NB456_462.out _; (with_reducible repeat (first | refine blk_drewN ?_ _ | refine blk_drew ?_ | refine blk_alloc ?_ _)); refine blk_far ?_ NB456_462.out _; (with_reducible repeat (first | refine blk_drewN ?_ _ | refine blk_drew ?_ | refine blk_alloc ?_ _)); exact BK456.out⟩, ⟨by (with_reducible repeat (first | refine blk_drewN ?_ _ | refine blk_drew ?_ | refine blk_alloc ?_ _)); refine blk_far ?_ NB462_463.out _; (with_reducible repeat (first | refine blk_drewN ?_ _ | refine blk_drew ?_ | refine blk_alloc ?_ _)); refine blk_far ?_ NB462_463.out _; (with_reducible repeat (first | refine blk_drewN ?_ _ | refine blk_drew ?_ | refine blk_alloc ?_ _)); refine blk_far ?_ NB462_463.out _; (with_reducible repeat (first | refine blk_drewN ?_ _ | refine blk_drew ?_ | refine blk_alloc ?_ _)); refine blk_put (cs := #[.int .i64 a1_0, .int .i64 a1_1, .int .i64 0]) ?_ 2 _ rfl; (with_reducible repeat (first | refine blk_drewN ?_ _ | refine blk_drew ?_ | refine blk_alloc ?_ _)); refine blk_put (cs := #[.int .i64 a1_0, .int .i64 0, .int .i64 0]) ?_ 1 _ rfl; (with_reducible repeat (first | refine blk_drewN ?_ _ | refine blk_drew ?_ | refine blk_alloc ?_ _)); refine blk_put (cs := #[.int .i64 0, .int .i64 0, .int .i64 0]) ?_ 0 _ rfl; (with_reducible repeat (first | refine blk_drewN ?_ _ | refine blk_drew ?_ | refine blk_alloc ?_ _)); exact BK462.out⟩, ⟨by (with_reducible repeat (first | refine blk_drewN ?_ _ | refine blk_drew ?_ | refine blk_alloc ?_ _)); refine blk_put (cs := #[.int .i64 0, .int .i64 0, .int .i64 0]) ?_ 2 _ rfl; (with_reducible repeat (first | refine blk_drewN ?_ _ | refine blk_drew ?_ | refine blk_alloc ?_ _)); refine blk_put (cs := #[.int .i64 0, .int .i64 0, .int .i64 0]) ?_ 1 _ rfl; (with_reducible repeat (first | refine blk_drewN ?_ _ | refine blk_drew ?_ | refine blk_alloc ?_ _)); refine blk_put (cs := #[.int .i64 0, .int .i64 0, .int .i64 0]) ?_ 0 _ rfl; (with_reducible repeat (first | refine blk_drewN ?_ _ | refine blk_drew ?_ | refine blk_alloc ?_ _)); refine blk_far ?_ NB463_462.out _; (with_reducible repeat (first | refine blk_drewN ?_ _ | refine blk_drew ?_ | refine blk_alloc ?_ _)); refine blk_far ?_ NB463_462.out _; (with_reducible repeat (first | refine blk_drewN ?_ _ | refine blk_drew ?_ | refine blk_alloc ?_ _)); refine blk_far ?_ NB463_462.out _; (with_reducible repeat (first | refine blk_drewN ?_ _ | refine blk_drew ?_ | refine blk_alloc ?_ _)); exact BK463.out⟩, ⟨blA⟩⟩
      case round =>
        clear H'
        try clear c1
        try clear c2
        try clear p2
        try clear c3
        try clear c5
        try clear c5b0
        try clear c5b1
        try clear c6
        try clear c7
        try clear c7b0
        try clear c10
        try clear c22
        try clear c24
        try clear hcz11_0
        try clear hcz11_1
        try clear hcz11_2
        try clear hcz12_0
        try clear hcz12_1
        try clear hcz12_2
        try clear hcz17_0
        try clear hcz17_1
        try clear hcz17_2
        try clear hcz18_0
        try clear hcz18_1
        try clear hcz18_2
        try clear hcz23_0
        try clear hcz23_1
        try clear hcz23_2
        try clear hcz24_0
        try clear hcz24_1
        try clear hcz24_2
        try clear hcz29_0
        try clear hcz29_1
        try clear hcz29_2
        try clear hcz30_0
        try clear hcz30_1
        try clear hcz30_2
        try clear hfz11_0
        try clear hfz11_1
        try clear hfz11_2
        try clear hfz12_0
        try clear hfz12_1
        try clear hfz12_2
        try clear hfz17_0
        try clear hfz17_1
        try clear hfz17_2
        try clear hfz18_0
        try clear hfz18_1
        try clear hfz18_2
        try clear hfz23_0
        try clear hfz23_1
        try clear hfz23_2
        try clear hfz24_0
        try clear hfz24_1
        try clear hfz24_2
        try clear hfz29_0
        try clear hfz29_1
        try clear hfz29_2
        try clear hfz30_0
        try clear hfz30_1
        try clear hfz30_2
        obtain ⟨x9_1, x12_1, x463000_1, x463001_1, x463002_1, x464000_1, x464001_1, x464002_1, rfl, rfl, HA, HK1, BK455, BK456, BK462, BK463, HB⟩ := hrel
        cases gk with
        | zero => exact absurd HA.out (by simp [spec_PlaceOfBall.l0])
        | succ k1 =>
          have H := HA.out
          clear HA
          simp only [spec_PlaceOfBall.l0] at H
          by_cases c42 : (!(x463000_1 == a2_0) || (!(x463001_1 == a2_1) || (!(x463002_1 == a2_2)))) = true
          · rw [if_pos c42] at H
            have c42b0 : (!(x463000_1 == a2_0) || (!(x463001_1 == a2_1) || (!(x463002_1 == a2_2)))) = true := c42
            clear c42
            replace H := Option.bind_eq_some_iff.mp H
            obtain ⟨⟨t464, t465⟩, A430, H⟩ := H
            replace H : (spec_PlaceOfBall.l1 k1 a0 x9_1 x12_1 t464 t465 0 a2_0 a2_1 a2_2 x463000_1 x463001_1 x463002_1 x464000_1 x464001_1 x464002_1) = some (r1, r2) := H
            have A43 := Aside0.mk A430
            clear A430
            have H' := Aside0.mk H
            clear H
            have hnb44 := NB462_455.out
            have hnc44 := NB455_462.out
            have hnb45 := NB462_456.out
            have hnc45 := NB456_462.out
            have hnb46 := NB462_463.out
            have hnc46 := NB463_462.out
            have hcz47_0 : wr.cell? ⟨gb462, 0, none⟩ = some (.int .i64 x463000_1) := (blk_cell BK462.out 0).trans rfl
            have hcz47_1 : wr.cell? ⟨gb462, 1, none⟩ = some (.int .i64 x463001_1) := (blk_cell BK462.out 1).trans rfl
            have hcz47_2 : wr.cell? ⟨gb462, 2, none⟩ = some (.int .i64 x463002_1) := (blk_cell BK462.out 2).trans rfl
            have hfz47_0 := blk_frozen BK462.out 0
            have hfz47_1 := blk_frozen BK462.out 1
            have hfz47_2 := blk_frozen BK462.out 2
            have hnb48 := NB456_455.out
            have hnc48 := NB455_456.out
            have hnb49 := NB456_463.out
            have hnc49 := NB463_456.out
            have hcz50_0 : wr.cell? ⟨gb456, 0, none⟩ = some (.int .i64 a2_0) := (blk_cell BK456.out 0).trans rfl
            have hcz50_1 : wr.cell? ⟨gb456, 1, none⟩ = some (.int .i64 a2_1) := (blk_cell BK456.out 1).trans rfl
            have hcz50_2 : wr.cell? ⟨gb456, 2, none⟩ = some (.int .i64 a2_2) := (blk_cell BK456.out 2).trans rfl
            have hfz50_0 := blk_frozen BK456.out 0
            have hfz50_1 := blk_frozen BK456.out 1
            have hfz50_2 := blk_frozen BK456.out 2
            go_wp2_with (first | ((with_reducible refine gate_callee (f := 67) rfl ?_); refine goesL_ (some 39) rfl rfl Try.func67 (by kernel_rfl) rfl #[.int .i64 a0, .int .i64 x9_1] rfl (by (try simp only [List.map_toArray, List.map_cons, List.map_nil]); first | done | rfl | (simp only [List.length_drop, List.length_take]; rfl)) ?_; (with_reducible refine (spec_l07Child.calls a0 x9_1 t464 t465 _ A43.out).mono ?_); rintro e w' ⟨rfl, ⟨nd, rfl⟩⟩; refine ⟨_, rfl, ?_⟩))
            go_loopg [9, 12, 15] k1 (fun kq v9 v12 v15 w' => ∃ (x9_2 : Int) (x12_2 : Bool) (x15_2 : Int) (x463000_2 : Int) (x463001_2 : Int) (x463002_2 : Int) (x464000_2 : Int) (x464001_2 : Int) (x464002_2 : Int), v9 = .int .i64 x9_2 ∧ v12 = .bool x12_2 ∧ v15 = .int .i64 x15_2 ∧ Aside0 (spec_PlaceOfBall.l1 kq a0 x9_2 x12_2 t464 t465 x15_2 a2_0 a2_1 a2_2 x463000_2 x463001_2 x463002_2 x464000_2 x464001_2 x464002_2 = some (r1, r2)) ∧ Aside0 (kq ≤ k1) ∧ Aside0 (w'.heap[gb455]? = some (.cells #[.int .i64 a1_0, .int .i64 a1_1, .int .i64 a1_2] 34 (0, 0))) ∧ Aside0 (w'.heap[gb456]? = some (.cells #[.int .i64 a2_0, .int .i64 a2_1, .int .i64 a2_2] 34 (0, 0))) ∧ Aside0 (w'.heap[gb462]? = some (.cells #[.int .i64 x463000_2, .int .i64 x463001_2, .int .i64 x463002_2] 34 (0, 0))) ∧ Aside0 (w'.heap[gb463]? = some (.cells #[.int .i64 x464000_2, .int .i64 x464001_2, .int .i64 x464002_2] 34 (0, 0))) ∧ Aside0 (Below w.heap.size w w'))
            case atStart => exact ⟨(x9_1), (x12_1), (0), (x463000_1), (x463001_1), (x463002_1), (x464000_1), (x464001_1), (x464002_1), (by first | rfl | (simp; done) | (simp [*]; done)), (by first | rfl | (simp; done) | (simp [*]; done)), (by first | rfl | (simp; done) | (simp [*]; done)), H', ⟨Nat.le_refl _⟩, ⟨bkA BK455⟩, ⟨bkA BK456⟩, ⟨bkA BK462⟩, ⟨bkA BK463⟩, ⟨blA⟩⟩
            case round =>
              clear H'
              try clear c1
              try clear c2
              try clear p2
              try clear c3
              try clear c4
              try clear c5
              try clear c5b0
              try clear c5b1
              try clear c6
              try clear c7
              try clear c7b0
              try clear c10
              try clear c22
              try clear c24
              try clear c42
              try clear c42b0
              try clear c44
              try clear c45
              try clear c46
              try clear c48
              try clear c49
              try clear hcz11_0
              try clear hcz11_1
              try clear hcz11_2
              try clear hcz12_0
              try clear hcz12_1
              try clear hcz12_2
              try clear hcz17_0
              try clear hcz17_1
              try clear hcz17_2
              try clear hcz18_0
              try clear hcz18_1
              try clear hcz18_2
              try clear hcz23_0
              try clear hcz23_1
              try clear hcz23_2
              try clear hcz24_0
              try clear hcz24_1
              try clear hcz24_2
              try clear hcz29_0
              try clear hcz29_1
              try clear hcz29_2
              try clear hcz30_0
              try clear hcz30_1
              try clear hcz30_2
              try clear hcz47_0
              try clear hcz47_1
              try clear hcz47_2
              try clear hcz50_0
              try clear hcz50_1
              try clear hcz50_2
              try clear hfz11_0
              try clear hfz11_1
              try clear hfz11_2
              try clear hfz12_0
              try clear hfz12_1
              try clear hfz12_2
              try clear hfz17_0
              try clear hfz17_1
              try clear hfz17_2
              try clear hfz18_0
              try clear hfz18_1
              try clear hfz18_2
              try clear hfz23_0
              try clear hfz23_1
              try clear hfz23_2
              try clear hfz24_0
              try clear hfz24_1
              try clear hfz24_2
              try clear hfz29_0
              try clear hfz29_1
              try clear hfz29_2
              try clear hfz30_0
              try clear hfz30_1
              try clear hfz30_2
              try clear hfz47_0
              try clear hfz47_1
              try clear hfz47_2
              try clear hfz50_0
              try clear hfz50_1
              try clear hfz50_2
              try clear p2
              obtain ⟨x9_2, x12_2, x15_2, x463000_2, x463001_2, x463002_2, x464000_2, x464001_2, x464002_2, rfl, rfl, rfl, HA, HK2, BK455, BK456, BK462, BK463, HB⟩ := hrel
              cases gk with
              | zero => exact absurd HA.out (by simp [spec_PlaceOfBall.l1])
              | succ k2 =>
                have H := HA.out
                clear HA
                simp only [spec_PlaceOfBall.l1] at H
                by_cases c51 : x15_2 < t465
                · rw [if_pos c51] at H
                  have c51b0 : decide (x15_2 < t465) = true := decide_eq_true c51
                  clear c51
                  replace H := Option.bind_eq_some_iff.mp H
                  obtain ⟨⟨t466, t467, t468, t469⟩, A520, H⟩ := H
                  replace H : (if t469 = true then ((spec_l02Distance.f k2 a0 t466 t467 t468 a2_0 a2_1 a2_2).bind fun t471 => ((spec_l02Distance.f k2 a0 x463000_2 x463001_2 x463002_2 a2_0 a2_1 a2_2).bind fun t472 => (if t471 < t472 then (spec_PlaceOfBall.l0 k2 a0 (wrap64 (t464 + x15_2)) true a2_0 a2_1 a2_2 t466 t467 t468 x463000_2 x463001_2 x463002_2) else (spec_PlaceOfBall.l1 k2 a0 x9_2 x12_2 t464 t465 (wrap64 (x15_2 + 1)) a2_0 a2_1 a2_2 x463000_2 x463001_2 x463002_2 x464000_2 x464001_2 x464002_2)))) else (spec_PlaceOfBall.l1 k2 a0 x9_2 x12_2 t464 t465 (wrap64 (x15_2 + 1)) a2_0 a2_1 a2_2 x463000_2 x463001_2 x463002_2 x464000_2 x464001_2 x464002_2)) = some (r1, r2) := H
                  have A52 := Aside0.mk A520
                  clear A520
                  by_cases c53 : t469 = true
                  · subst c53
                    have H1 : ((spec_l02Distance.f k2 a0 t466 t467 t468 a2_0 a2_1 a2_2).bind fun t471 => ((spec_l02Distance.f k2 a0 x463000_2 x463001_2 x463002_2 a2_0 a2_1 a2_2).bind fun t472 => (if t471 < t472 then (spec_PlaceOfBall.l0 k2 a0 (wrap64 (t464 + x15_2)) true a2_0 a2_1 a2_2 t466 t467 t468 x463000_2 x463001_2 x463002_2) else (spec_PlaceOfBall.l1 k2 a0 x9_2 x12_2 t464 t465 (wrap64 (x15_2 + 1)) a2_0 a2_1 a2_2 x463000_2 x463001_2 x463002_2 x464000_2 x464001_2 x464002_2)))) = some (r1, r2) := by rw [if_pos rfl] at H; exact H
                    clear H
                    have H := H1
                    clear H1
                    replace H := Option.bind_eq_some_iff.mp H
                    obtain ⟨t471, A540, H⟩ := H
                    replace H : ((spec_l02Distance.f k2 a0 x463000_2 x463001_2 x463002_2 a2_0 a2_1 a2_2).bind fun t472 => (if t471 < t472 then (spec_PlaceOfBall.l0 k2 a0 (wrap64 (t464 + x15_2)) true a2_0 a2_1 a2_2 t466 t467 t468 x463000_2 x463001_2 x463002_2) else (spec_PlaceOfBall.l1 k2 a0 x9_2 x12_2 t464 t465 (wrap64 (x15_2 + 1)) a2_0 a2_1 a2_2 x463000_2 x463001_2 x463002_2 x464000_2 x464001_2 x464002_2))) = some (r1, r2) := H
                    have A54 := Aside0.mk A540
                    clear A540
                    replace H := Option.bind_eq_some_iff.mp H
                    obtain ⟨t472, A550, H⟩ := H
                    replace H : (if t471 < t472 then (spec_PlaceOfBall.l0 k2 a0 (wrap64 (t464 + x15_2)) true a2_0 a2_1 a2_2 t466 t467 t468 x463000_2 x463001_2 x463002_2) else (spec_PlaceOfBall.l1 k2 a0 x9_2 x12_2 t464 t465 (wrap64 (x15_2 + 1)) a2_0 a2_1 a2_2 x463000_2 x463001_2 x463002_2 x464000_2 x464001_2 x464002_2)) = some (r1, r2) := H
                    have A55 := Aside0.mk A550
                    clear A550
                    by_cases c56 : t471 < t472
                    · rw [if_pos c56] at H
                      have c56b0 : decide (t471 < t472) = true := decide_eq_true c56
                      clear c56
                      have H' := Aside0.mk H
                      clear H
                      have hnb57 := NB462_455.out
                      have hnc57 := NB455_462.out
                      have hnb58 := NB462_456.out
                      have hnc58 := NB456_462.out
                      have hnb59 := NB462_463.out
                      have hnc59 := NB463_462.out
                      have hcz60_0 : wr.cell? ⟨gb462, 0, none⟩ = some (.int .i64 x463000_2) := (blk_cell BK462.out 0).trans rfl
                      have hcz60_1 : wr.cell? ⟨gb462, 1, none⟩ = some (.int .i64 x463001_2) := (blk_cell BK462.out 1).trans rfl
                      have hcz60_2 : wr.cell? ⟨gb462, 2, none⟩ = some (.int .i64 x463002_2) := (blk_cell BK462.out 2).trans rfl
                      have hfz60_0 := blk_frozen BK462.out 0
                      have hfz60_1 := blk_frozen BK462.out 1
                      have hfz60_2 := blk_frozen BK462.out 2
                      have hnb61 := NB463_455.out
                      have hnc61 := NB455_463.out
                      have hnb62 := NB463_456.out
                      have hnc62 := NB456_463.out
                      have hcz63_0 : wr.cell? ⟨gb463, 0, none⟩ = some (.int .i64 x464000_2) := (blk_cell BK463.out 0).trans rfl
                      have hcz63_1 : wr.cell? ⟨gb463, 1, none⟩ = some (.int .i64 x464001_2) := (blk_cell BK463.out 1).trans rfl
                      have hcz63_2 : wr.cell? ⟨gb463, 2, none⟩ = some (.int .i64 x464002_2) := (blk_cell BK463.out 2).trans rfl
                      have hfz63_0 := blk_frozen BK463.out 0
                      have hfz63_1 := blk_frozen BK463.out 1
                      have hfz63_2 := blk_frozen BK463.out 2
                      try go_wp2_with (first | ((with_reducible refine gate_callee (f := 68) rfl ?_); refine goesL_ (some 53) rfl rfl Try.func68 (by kernel_rfl) rfl #[.int .i64 a0, .agg #[.int .i64 x463000_2, .int .i64 x463001_2, .int .i64 x463002_2], .agg #[.int .i64 x464000_2, .int .i64 x464001_2, .int .i64 x464002_2], .bool x12_2, .int .i64 x15_2] rfl (by (try simp only [List.map_toArray, List.map_cons, List.map_nil]); first | done | rfl | (simp only [List.length_drop, List.length_take]; rfl)) ?_; (with_reducible refine (spec_l07Next.calls k2 a0 x463000_2 x463001_2 x463002_2 x464000_2 x464001_2 x464002_2 x12_2 x15_2 t466 t467 t468 true _ A52.out).mono ?_); rintro e w64 ⟨rfl, hb⟩; refine ⟨_, rfl, ?_⟩; have n0_ := Aside0.mk (blk_below (bkA BK455) hb); have n1_ := Aside0.mk (blk_below (bkA BK456) hb); have n2_ := Aside0.mk (blk_below (bkA BK462) hb); have n3_ := Aside0.mk (blk_below (bkA BK463) hb); have n4_ := Aside0.mk (below_step blA hb); clear BK455; clear BK456; clear BK462; clear BK463; clear HB; have BK455 := n0_; have BK456 := n1_; have BK462 := n2_; have BK463 := n3_; have HB := n4_; clear n0_ n1_ n2_ n3_ n4_; (try clear hb); (try clear hb2); (try clear hk); (try clear hi)) | ((with_reducible refine gate_dst (N := 16) rfl ?_); refine box_event ?hg (N := 16) ?hd (cs := #[.int .i64 0, .int .i64 0, .int .i64 0]) (t := 34) ?hr ?_; (case hd => rfl); (case hg => rfl); (case hr => first | (go_simp; done) | (go_simp; rfl)); intro gb470 hg w65 hbox hb; have n0_ := Aside0.mk (blk_below (bkA BK455) hb); have n1_ := Aside0.mk (blk_below (bkA BK456) hb); have n2_ := Aside0.mk (blk_below (bkA BK462) hb); have n3_ := Aside0.mk (blk_below (bkA BK463) hb); have n4_ := Aside0.mk (below_step blA hb); have n5_ := Aside0.mk (hbox); have n6_ := Aside0.mk (szA hg blA); have n7_ := Aside0.mk (szA hg blA); have n8_ := Aside0.mk (neA hg (bkA BK455)); have n9_ := Aside0.mk (neB hg (bkA BK455)); have n10_ := Aside0.mk (neA hg (bkA BK456)); have n11_ := Aside0.mk (neB hg (bkA BK456)); have n12_ := Aside0.mk (neA hg (bkA BK462)); have n13_ := Aside0.mk (neB hg (bkA BK462)); have n14_ := Aside0.mk (neA hg (bkA BK463)); have n15_ := Aside0.mk (neB hg (bkA BK463)); clear BK455; clear BK456; clear BK462; clear BK463; clear HB; have BK455 := n0_; have BK456 := n1_; have BK462 := n2_; have BK463 := n3_; have HB := n4_; have BK470 := n5_; have GW470 := n6_; have GE470 := n7_; have NB455_470 := n8_; have NB470_455 := n9_; have NB456_470 := n10_; have NB470_456 := n11_; have NB462_470 := n12_; have NB470_462 := n13_; have NB463_470 := n14_; have NB470_463 := n15_; clear n0_ n1_ n2_ n3_ n4_ n5_ n6_ n7_ n8_ n9_ n10_ n11_ n12_ n13_ n14_ n15_; clear hb hbox hg; have hnb66 := NB470_455.out; have hnc66 := NB455_470.out; have hnb67 := NB470_456.out; have hnc67 := NB456_470.out; have hnb68 := NB470_462.out; have hnc68 := NB462_470.out; have hnb69 := NB470_463.out; have hnc69 := NB463_470.out; have hcz70_0 : w65.cell? ⟨gb470, 0, none⟩ = some (.int .i64 0) := (blk_cell BK470.out 0).trans rfl; have hcz70_1 : w65.cell? ⟨gb470, 1, none⟩ = some (.int .i64 0) := (blk_cell BK470.out 1).trans rfl; have hcz70_2 : w65.cell? ⟨gb470, 2, none⟩ = some (.int .i64 0) := (blk_cell BK470.out 2).trans rfl; have hfz70_0 := blk_frozen BK470.out 0; have hfz70_1 := blk_frozen BK470.out 1; have hfz70_2 := blk_frozen BK470.out 2))
                      have n0_ : Aside0 ((((w65.setCell ⟨gb470, 0, none⟩ (.int .i64 t466)).setCell ⟨gb470, 1, none⟩ (.int .i64 t467)).setCell ⟨gb470, 2, none⟩ (.int .i64 t468)).heap[gb455]? = some (.cells #[.int .i64 a1_0, .int .i64 a1_1, .int .i64 a1_2] 34 (0, 0))) := ⟨by (with_reducible repeat (first | refine blk_drewN ?_ _ | refine blk_drew ?_ | refine blk_alloc ?_ _)); refine blk_far ?_ NB455_470.out _; (with_reducible repeat (first | refine blk_drewN ?_ _ | refine blk_drew ?_ | refine blk_alloc ?_ _)); refine blk_far ?_ NB455_470.out _; (with_reducible repeat (first | refine blk_drewN ?_ _ | refine blk_drew ?_ | refine blk_alloc ?_ _)); refine blk_far ?_ NB455_470.out _; (with_reducible repeat (first | refine blk_drewN ?_ _ | refine blk_drew ?_ | refine blk_alloc ?_ _)); exact BK455.out⟩
                      have n1_ : Aside0 ((((w65.setCell ⟨gb470, 0, none⟩ (.int .i64 t466)).setCell ⟨gb470, 1, none⟩ (.int .i64 t467)).setCell ⟨gb470, 2, none⟩ (.int .i64 t468)).heap[gb456]? = some (.cells #[.int .i64 a2_0, .int .i64 a2_1, .int .i64 a2_2] 34 (0, 0))) := ⟨by (with_reducible repeat (first | refine blk_drewN ?_ _ | refine blk_drew ?_ | refine blk_alloc ?_ _)); refine blk_far ?_ NB456_470.out _; (with_reducible repeat (first | refine blk_drewN ?_ _ | refine blk_drew ?_ | refine blk_alloc ?_ _)); refine blk_far ?_ NB456_470.out _; (with_reducible repeat (first | refine blk_drewN ?_ _ | refine blk_drew ?_ | refine blk_alloc ?_ _)); refine blk_far ?_ NB456_470.out _; (with_reducible repeat (first | refine blk_drewN ?_ _ | refine blk_drew ?_ | refine blk_alloc ?_ _)); exact BK456.out⟩
                      have n2_ : Aside0 ((((w65.setCell ⟨gb470, 0, none⟩ (.int .i64 t466)).setCell ⟨gb470, 1, none⟩ (.int .i64 t467)).setCell ⟨gb470, 2, none⟩ (.int .i64 t468)).heap[gb462]? = some (.cells #[.int .i64 x463000_2, .int .i64 x463001_2, .int .i64 x463002_2] 34 (0, 0))) := ⟨by (with_reducible repeat (first | refine blk_drewN ?_ _ | refine blk_drew ?_ | refine blk_alloc ?_ _)); refine blk_far ?_ NB462_470.out _; (with_reducible repeat (first | refine blk_drewN ?_ _ | refine blk_drew ?_ | refine blk_alloc ?_ _)); refine blk_far ?_ NB462_470.out _; (with_reducible repeat (first | refine blk_drewN ?_ _ | refine blk_drew ?_ | refine blk_alloc ?_ _)); refine blk_far ?_ NB462_470.out _; (with_reducible repeat (first | refine blk_drewN ?_ _ | refine blk_drew ?_ | refine blk_alloc ?_ _)); exact BK462.out⟩
                      have n3_ : Aside0 ((((w65.setCell ⟨gb470, 0, none⟩ (.int .i64 t466)).setCell ⟨gb470, 1, none⟩ (.int .i64 t467)).setCell ⟨gb470, 2, none⟩ (.int .i64 t468)).heap[gb463]? = some (.cells #[.int .i64 x464000_2, .int .i64 x464001_2, .int .i64 x464002_2] 34 (0, 0))) := ⟨by (with_reducible repeat (first | refine blk_drewN ?_ _ | refine blk_drew ?_ | refine blk_alloc ?_ _)); refine blk_far ?_ NB463_470.out _; (with_reducible repeat (first | refine blk_drewN ?_ _ | refine blk_drew ?_ | refine blk_alloc ?_ _)); refine blk_far ?_ NB463_470.out _; (with_reducible repeat (first | refine blk_drewN ?_ _ | refine blk_drew ?_ | refine blk_alloc ?_ _)); refine blk_far ?_ NB463_470.out _; (with_reducible repeat (first | refine blk_drewN ?_ _ | refine blk_drew ?_ | refine blk_alloc ?_ _)); exact BK463.out⟩
                      have n4_ : Aside0 ((((w65.setCell ⟨gb470, 0, none⟩ (.int .i64 t466)).setCell ⟨gb470, 1, none⟩ (.int .i64 t467)).setCell ⟨gb470, 2, none⟩ (.int .i64 t468)).heap[gb470]? = some (.cells #[.int .i64 t466, .int .i64 t467, .int .i64 t468] 34 (0, 0))) := ⟨by (with_reducible repeat (first | refine blk_drewN ?_ _ | refine blk_drew ?_ | refine blk_alloc ?_ _)); refine blk_put (cs := #[.int .i64 t466, .int .i64 t467, .int .i64 0]) ?_ 2 _ rfl; (with_reducible repeat (first | refine blk_drewN ?_ _ | refine blk_drew ?_ | refine blk_alloc ?_ _)); refine blk_put (cs := #[.int .i64 t466, .int .i64 0, .int .i64 0]) ?_ 1 _ rfl; (with_reducible repeat (first | refine blk_drewN ?_ _ | refine blk_drew ?_ | refine blk_alloc ?_ _)); refine blk_put (cs := #[.int .i64 0, .int .i64 0, .int .i64 0]) ?_ 0 _ rfl; (with_reducible repeat (first | refine blk_drewN ?_ _ | refine blk_drew ?_ | refine blk_alloc ?_ _)); exact BK470.out⟩
                      have n5_ : Aside0 (Below w.heap.size w (((w65.setCell ⟨gb470, 0, none⟩ (.int .i64 t466)).setCell ⟨gb470, 1, none⟩ (.int .i64 t467)).setCell ⟨gb470, 2, none⟩ (.int .i64 t468))) := ⟨blA⟩
                      (try clear BK455)
                      (try clear BK456)
                      (try clear BK462)
                      (try clear BK463)
                      (try clear BK470)
                      (try clear HB)
                      generalize (((w65.setCell ⟨gb470, 0, none⟩ (.int .i64 t466)).setCell ⟨gb470, 1, none⟩ (.int .i64 t467)).setCell ⟨gb470, 2, none⟩ (.int .i64 t468)) = w71 at n0_ n1_ n2_ n3_ n4_ n5_ ⊢
                      have BK455 := n0_
                      have BK456 := n1_
                      have BK462 := n2_
                      have BK463 := n3_
                      have BK470 := n4_
                      have HB := n5_
                      clear n0_ n1_ n2_ n3_ n4_ n5_
                      have n0_ := Aside0.mk (blk_drew BK455.out)
                      have n1_ := Aside0.mk (blk_drew BK456.out)
                      have n2_ := Aside0.mk (blk_drew BK462.out)
                      have n3_ := Aside0.mk (blk_drew BK463.out)
                      have n4_ := Aside0.mk (blk_drew BK470.out)
                      have n5_ := Aside0.mk (below_drew1 HB.out)
                      clear BK455
                      clear BK456
                      clear BK462
                      clear BK463
                      clear BK470
                      clear HB
                      have BK455 := n0_
                      have BK456 := n1_
                      have BK462 := n2_
                      have BK463 := n3_
                      have BK470 := n4_
                      have HB := n5_
                      clear n0_ n1_ n2_ n3_ n4_ n5_
                      refine start_ (n := 12) (S := fun w' => w'.cell? ⟨gb470, 0, none⟩ = some (.int .i64 t466) ∧ w'.cell? ⟨gb470, 1, none⟩ = some (.int .i64 t467) ∧ w'.cell? ⟨gb470, 2, none⟩ = some (.int .i64 t468) ∧ w'.cell? ⟨gb456, 0, none⟩ = some (.int .i64 a2_0) ∧ w'.cell? ⟨gb456, 1, none⟩ = some (.int .i64 a2_1) ∧ w'.cell? ⟨gb456, 2, none⟩ = some (.int .i64 a2_2) ∧ w'.cell? ⟨gb462, 0, none⟩ = some (.int .i64 x463000_2) ∧ w'.cell? ⟨gb462, 1, none⟩ = some (.int .i64 x463001_2) ∧ w'.cell? ⟨gb462, 2, none⟩ = some (.int .i64 x463002_2)) (ds := []) #[false, false, false, false, false, false, false, false, false, false, false, false] (by kernel_rfl) rfl rfl ⟨(blk_cell BK470.out 0).trans rfl, (blk_cell BK470.out 1).trans rfl, (blk_cell BK470.out 2).trans rfl, (blk_cell BK456.out 0).trans rfl, (blk_cell BK456.out 1).trans rfl, (blk_cell BK456.out 2).trans rfl, (blk_cell BK462.out 0).trans rfl, (blk_cell BK462.out 1).trans rfl, (blk_cell BK462.out 2).trans rfl⟩ (fun hHeld => ?_); refine with_tabW spec_PlaceOfBall.tab13 spec_PlaceOfBall.bits13 (fun HT_ HW_ => ?_)
                      generalize w71.drew = w72 at BK455 BK456 BK462 BK463 BK470 HB hHeld ⊢
                      refine pure_ (i := 0) (N := some 56) (v := ?_) (a' := ?_) #[true, false, false, false, false, false, false, false, false, false, false, false] rfl rfl (any_of HT_.out (by kernel_rfl)) (fun _ _ _ h => h) (Or.inl ⟨by rfl, ?_⟩) ?_ ?_
                      rotate_left
                      · intro w'
                        go_simp
                        with_reducible rfl
                      rotate_left
                      · simp only [Act.put, List.setIfInBounds_toArray, List.set_cons_zero, List.set_cons_succ, i64_w, i32_w]
                        rfl
                      refine pure_ (i := 1) (N := some 57) (v := ?_) (a' := ?_) #[true, true, false, false, false, false, false, false, false, false, false, false] rfl rfl (any_of HT_.out (by kernel_rfl)) (fun _ _ _ h => h) (Or.inl ⟨by rfl, ?_⟩) ?_ ?_
                      rotate_left
                      · intro w'
                        go_simp
                        with_reducible rfl
                      rotate_left
                      · simp only [Act.put, List.setIfInBounds_toArray, List.set_cons_zero, List.set_cons_succ, i64_w, i32_w]
                        rfl
                      refine pure_ (i := 2) (N := some 58) (v := ?_) (a' := ?_) #[true, true, true, false, false, false, false, false, false, false, false, false] rfl rfl (any_of HT_.out (by kernel_rfl)) (fun _ _ _ h => h) (Or.inl ⟨by rfl, ?_⟩) ?_ ?_
                      rotate_left
                      · intro w'
                        go_simp
                        with_reducible rfl
                      rotate_left
                      · simp only [Act.put, List.setIfInBounds_toArray, List.set_cons_zero, List.set_cons_succ, i64_w, i32_w]
                        rfl
                      refine pure_ (i := 6) (N := some 62) (v := ?_) (a' := ?_) #[true, true, true, false, false, false, true, false, false, false, false, false] rfl rfl (any_of HT_.out (by kernel_rfl)) (fun _ _ _ h => h) (Or.inl ⟨by rfl, ?_⟩) ?_ ?_
                      rotate_left
                      · intro w'
                        go_simp
                        with_reducible rfl
                      rotate_left
                      · simp only [Act.put, List.setIfInBounds_toArray, List.set_cons_zero, List.set_cons_succ, i64_w, i32_w]
                        rfl
                      refine take_ (i := 3) (N := some 59) (v := ?_) (a' := ?_) #[true, true, true, true, false, false, true, false, false, false, false, false] rfl rfl (take_ofW HT_.out HW_.out (by kernel_rfl)) (fun _ _ _ h => h) (Or.inl ⟨by rfl, ?_⟩) hHeld ?_ ?_
                      rotate_left
                      · rintro w' ⟨s0, s1, s2, s3, s4, s5, s6, s7, s8⟩
                        go_simp
                        with_reducible rfl
                      rotate_left
                      · simp only [Act.put, List.setIfInBounds_toArray, List.set_cons_zero, List.set_cons_succ, i64_w, i32_w]
                        rfl
                      refine take_ (i := 4) (N := some 60) (v := ?_) (a' := ?_) #[true, true, true, true, true, false, true, false, false, false, false, false] rfl rfl (take_ofW HT_.out HW_.out (by kernel_rfl)) (fun _ _ _ h => h) (Or.inl ⟨by rfl, ?_⟩) hHeld ?_ ?_
                      rotate_left
                      · rintro w' ⟨s0, s1, s2, s3, s4, s5, s6, s7, s8⟩
                        go_simp
                        with_reducible rfl
                      rotate_left
                      · simp only [Act.put, List.setIfInBounds_toArray, List.set_cons_zero, List.set_cons_succ, i64_w, i32_w]
                        rfl
                      refine take_ (i := 7) (N := some 63) (v := ?_) (a' := ?_) #[true, true, true, true, true, false, true, true, false, false, false, false] rfl rfl (take_ofW HT_.out HW_.out (by kernel_rfl)) (fun _ _ _ h => h) (Or.inl ⟨by rfl, ?_⟩) hHeld ?_ ?_
                      rotate_left
                      · rintro w' ⟨s0, s1, s2, s3, s4, s5, s6, s7, s8⟩
                        go_simp
                        with_reducible rfl
                      rotate_left
                      · simp only [Act.put, List.setIfInBounds_toArray, List.set_cons_zero, List.set_cons_succ, i64_w, i32_w]
                        rfl
                      refine take_ (i := 8) (N := some 64) (v := ?_) (a' := ?_) #[true, true, true, true, true, false, true, true, true, false, false, false] rfl rfl (take_ofW HT_.out HW_.out (by kernel_rfl)) (fun _ _ _ h => h) (Or.inl ⟨by rfl, ?_⟩) hHeld ?_ ?_
                      rotate_left
                      · rintro w' ⟨s0, s1, s2, s3, s4, s5, s6, s7, s8⟩
                        go_simp
                        with_reducible rfl
                      rotate_left
                      · simp only [Act.put, List.setIfInBounds_toArray, List.set_cons_zero, List.set_cons_succ, i64_w, i32_w]
                        rfl
                      refine one_ (i := 5) (N := some 61) #[true, true, true, true, true, true, true, true, true, false, false, false] rfl rfl (one_of HT_.out (by kernel_rfl)) (by decide) (fun K hK => ?_)
                      refine goes_ Try.func66 (by kernel_rfl) rfl #[.int .i64 a0, .agg #[.int .i64 t466, .int .i64 t467, .int .i64 t468], .agg #[.int .i64 a2_0, .int .i64 a2_1, .int .i64 a2_2]] (by rfl) rfl rfl (by (try simp only [List.map_toArray, List.map_cons, List.map_nil]); first | done | rfl | (simp only [List.length_drop, List.length_take]; rfl)) ?_
                      with_reducible refine (spec_l02Distance.calls k2 a0 t466 t467 t468 a2_0 a2_1 a2_2 t471 _ A54.out).mono ?_
                      rintro e w73 ⟨rfl, hb⟩
                      refine ⟨_, rfl, ?_⟩
                      have n0_ := Aside0.mk (blk_below (bkA BK455) hb)
                      have n1_ := Aside0.mk (blk_below (bkA BK456) hb)
                      have n2_ := Aside0.mk (blk_below (bkA BK462) hb)
                      have n3_ := Aside0.mk (blk_below (bkA BK463) hb)
                      have n4_ := Aside0.mk (blk_below (bkA BK470) hb)
                      have n5_ := Aside0.mk (below_step blA hb)
                      clear BK455
                      clear BK456
                      clear BK462
                      clear BK463
                      clear BK470
                      clear HB
                      have BK455 := n0_
                      have BK456 := n1_
                      have BK462 := n2_
                      have BK463 := n3_
                      have BK470 := n4_
                      have HB := n5_
                      clear n0_ n1_ n2_ n3_ n4_ n5_
                      (try clear hb)
                      (try clear hb2)
                      (try clear hk)
                      (try clear hi)
                      refine hK.out _ _ ⟨(blk_cell BK470.out 0).trans rfl, (blk_cell BK470.out 1).trans rfl, (blk_cell BK470.out 2).trans rfl, (blk_cell BK456.out 0).trans rfl, (blk_cell BK456.out 1).trans rfl, (blk_cell BK456.out 2).trans rfl, (blk_cell BK462.out 0).trans rfl, (blk_cell BK462.out 1).trans rfl, (blk_cell BK462.out 2).trans rfl⟩ (fun hHeld => ?_)
                      clear hK K
                      refine norm_ (a' := ?_) ?_ ?_
                      rotate_left
                      · show Act.put _ (some 61) _ = _
                        simp only [Act.put, List.setIfInBounds_toArray, List.set_cons_zero, List.set_cons_succ, i64_w, i32_w]
                        rfl
                      refine one_ (i := 9) (N := some 65) #[true, true, true, true, true, true, true, true, true, true, false, false] rfl rfl (one_of HT_.out (by kernel_rfl)) (by decide) (fun K hK => ?_)
                      refine goes_ Try.func66 (by kernel_rfl) rfl #[.int .i64 a0, .agg #[.int .i64 x463000_2, .int .i64 x463001_2, .int .i64 x463002_2], .agg #[.int .i64 a2_0, .int .i64 a2_1, .int .i64 a2_2]] (by rfl) rfl rfl (by (try simp only [List.map_toArray, List.map_cons, List.map_nil]); first | done | rfl | (simp only [List.length_drop, List.length_take]; rfl)) ?_
                      with_reducible refine (spec_l02Distance.calls k2 a0 x463000_2 x463001_2 x463002_2 a2_0 a2_1 a2_2 t472 _ A55.out).mono ?_
                      rintro e w74 ⟨rfl, hb⟩
                      refine ⟨_, rfl, ?_⟩
                      have n0_ := Aside0.mk (blk_below (bkA BK455) hb)
                      have n1_ := Aside0.mk (blk_below (bkA BK456) hb)
                      have n2_ := Aside0.mk (blk_below (bkA BK462) hb)
                      have n3_ := Aside0.mk (blk_below (bkA BK463) hb)
                      have n4_ := Aside0.mk (blk_below (bkA BK470) hb)
                      have n5_ := Aside0.mk (below_step blA hb)
                      clear BK455
                      clear BK456
                      clear BK462
                      clear BK463
                      clear BK470
                      clear HB
                      have BK455 := n0_
                      have BK456 := n1_
                      have BK462 := n2_
                      have BK463 := n3_
                      have BK470 := n4_
                      have HB := n5_
                      clear n0_ n1_ n2_ n3_ n4_ n5_
                      (try clear hb)
                      (try clear hb2)
                      (try clear hk)
                      (try clear hi)
                      refine hK.out _ _ ⟨(blk_cell BK470.out 0).trans rfl, (blk_cell BK470.out 1).trans rfl, (blk_cell BK470.out 2).trans rfl, (blk_cell BK456.out 0).trans rfl, (blk_cell BK456.out 1).trans rfl, (blk_cell BK456.out 2).trans rfl, (blk_cell BK462.out 0).trans rfl, (blk_cell BK462.out 1).trans rfl, (blk_cell BK462.out 2).trans rfl⟩ (fun hHeld => ?_)
                      clear hK K
                      refine norm_ (a' := ?_) ?_ ?_
                      rotate_left
                      · show Act.put _ (some 65) _ = _
                        simp only [Act.put, List.setIfInBounds_toArray, List.set_cons_zero, List.set_cons_succ, i64_w, i32_w]
                        rfl
                      refine pure_ (i := 10) (N := some 66) (v := ?_) (a' := ?_) #[true, true, true, true, true, true, true, true, true, true, true, false] rfl rfl (any_of HT_.out (by kernel_rfl)) (fun _ _ _ h => h) (Or.inl ⟨by rfl, ?_⟩) ?_ ?_
                      rotate_left
                      · intro w'
                        go_simp
                        with_reducible rfl
                      rotate_left
                      · simp only [Act.put, List.setIfInBounds_toArray, List.set_cons_zero, List.set_cons_succ, i64_w, i32_w]
                        rfl
                      refine pure_ (i := 11) (N := some 67) (v := ?_) (a' := ?_) #[true, true, true, true, true, true, true, true, true, true, true, true] rfl rfl (any_of HT_.out (by kernel_rfl)) (fun _ _ _ h => h) (Or.inl ⟨by rfl, ?_⟩) ?_ ?_
                      rotate_left
                      · intro w'
                        go_simp
                        with_reducible rfl
                      rotate_left
                      · simp only [Act.put, List.setIfInBounds_toArray, List.set_cons_zero, List.set_cons_succ, i64_w, i32_w]
                        rfl
                      refine done_ (done_of HT_.out (by kernel_rfl)) ?_
                      have hcz75_0 : w74.cell? ⟨gb462, 0, none⟩ = some (.int .i64 x463000_2) := (blk_cell BK462.out 0).trans rfl
                      have hcz75_1 : w74.cell? ⟨gb462, 1, none⟩ = some (.int .i64 x463001_2) := (blk_cell BK462.out 1).trans rfl
                      have hcz75_2 : w74.cell? ⟨gb462, 2, none⟩ = some (.int .i64 x463002_2) := (blk_cell BK462.out 2).trans rfl
                      have hfz75_0 := blk_frozen BK462.out 0
                      have hfz75_1 := blk_frozen BK462.out 1
                      have hfz75_2 := blk_frozen BK462.out 2
                      have hcz76_0 : w74.cell? ⟨gb463, 0, none⟩ = some (.int .i64 x464000_2) := (blk_cell BK463.out 0).trans rfl
                      have hcz76_1 : w74.cell? ⟨gb463, 1, none⟩ = some (.int .i64 x464001_2) := (blk_cell BK463.out 1).trans rfl
                      have hcz76_2 : w74.cell? ⟨gb463, 2, none⟩ = some (.int .i64 x464002_2) := (blk_cell BK463.out 2).trans rfl
                      have hfz76_0 := blk_frozen BK463.out 0
                      have hfz76_1 := blk_frozen BK463.out 1
                      have hfz76_2 := blk_frozen BK463.out 2
                      have hcz77_0 : w74.cell? ⟨gb470, 0, none⟩ = some (.int .i64 t466) := (blk_cell BK470.out 0).trans rfl
                      have hcz77_1 : w74.cell? ⟨gb470, 1, none⟩ = some (.int .i64 t467) := (blk_cell BK470.out 1).trans rfl
                      have hcz77_2 : w74.cell? ⟨gb470, 2, none⟩ = some (.int .i64 t468) := (blk_cell BK470.out 2).trans rfl
                      have hfz77_0 := blk_frozen BK470.out 0
                      have hfz77_1 := blk_frozen BK470.out 1
                      have hfz77_2 := blk_frozen BK470.out 2
                      try go_wp2
                      go_roundg k2
                      case measure => have := HK1.out; have := HK2.out; omega
                      case rel => exact ⟨(wrap64 (t464 + x15_2)), (true), (t466), (t467), (t468), (x463000_2), (x463001_2), (x463002_2), (by first | rfl | (simp; done) | (simp [*]; done)), (by first | rfl | (simp; done) | (simp [*]; done)), H', ⟨by have := HK1.out; have := HK2.out; omega⟩, ⟨by (with_reducible repeat (first | refine blk_drewN ?_ _ | refine blk_drew ?_ | refine blk_alloc ?_ _)); refine blk_far ?_ NB455_462.out _; (with_reducible repeat (first | refine blk_drewN ?_ _ | refine blk_drew ?_ | refine blk_alloc ?_ _)); refine blk_far ?_ NB455_462.out _; (with_reducible repeat (first | refine blk_drewN ?_ _ | refine blk_drew ?_ | refine blk_alloc ?_ _)); refine blk_far ?_ NB455_462.out _; (with_reducible repeat (first | refine blk_drewN ?_ _ | refine blk_drew ?_ | refine blk_alloc ?_ _)); refine blk_far ?_ NB455_463.out _; (with_reducible repeat (first | refine blk_drewN ?_ _ | refine blk_drew ?_ | refine blk_alloc ?_ _)); refine blk_far ?_ NB455_463.out _; (with_reducible repeat (first | refine blk_drewN ?_ _ | refine blk_drew ?_ | refine blk_alloc ?_ _)); refine blk_far ?_ NB455_463.out _; (with_reducible repeat (first | refine blk_drewN ?_ _ | refine blk_drew ?_ | refine blk_alloc ?_ _)); exact BK455.out⟩, ⟨by (with_reducible repeat (first | refine blk_drewN ?_ _ | refine blk_drew ?_ | refine blk_alloc ?_ _)); refine blk_far ?_ NB456_462.out _; (with_reducible repeat (first | refine blk_drewN ?_ _ | refine blk_drew ?_ | refine blk_alloc ?_ _)); refine blk_far ?_ NB456_462.out _; (with_reducible repeat (first | refine blk_drewN ?_ _ | refine blk_drew ?_ | refine blk_alloc ?_ _)); refine blk_far ?_ NB456_462.out _; (with_reducible repeat (first | refine blk_drewN ?_ _ | refine blk_drew ?_ | refine blk_alloc ?_ _)); refine blk_far ?_ NB456_463.out _; (with_reducible repeat (first | refine blk_drewN ?_ _ | refine blk_drew ?_ | refine blk_alloc ?_ _)); refine blk_far ?_ NB456_463.out _; (with_reducible repeat (first | refine blk_drewN ?_ _ | refine blk_drew ?_ | refine blk_alloc ?_ _)); refine blk_far ?_ NB456_463.out _; (with_reducible repeat (first | refine blk_drewN ?_ _ | refine blk_drew ?_ | refine blk_alloc ?_ _)); exact BK456.out⟩, ⟨by (with_reducible repeat (first | refine blk_drewN ?_ _ | refine blk_drew ?_ | refine blk_alloc ?_ _)); refine blk_put (cs := #[.int .i64 t466, .int .i64 t467, .int .i64 x463002_2]) ?_ 2 _ rfl; (with_reducible repeat (first | refine blk_drewN ?_ _ | refine blk_drew ?_ | refine blk_alloc ?_ _)); refine blk_put (cs := #[.int .i64 t466, .int .i64 x463001_2, .int .i64 x463002_2]) ?_ 1 _ rfl; (with_reducible repeat (first | refine blk_drewN ?_ _ | refine blk_drew ?_ | refine blk_alloc ?_ _)); refine blk_put (cs := #[.int .i64 x463000_2, .int .i64 x463001_2, .int .i64 x463002_2]) ?_ 0 _ rfl; (with_reducible repeat (first | refine blk_drewN ?_ _ | refine blk_drew ?_ | refine blk_alloc ?_ _)); refine blk_far ?_ NB462_463.out _; (with_reducible repeat (first | refine blk_drewN ?_ _ | refine blk_drew ?_ | refine blk_alloc ?_ _)); refine blk_far ?_ NB462_463.out _; (with_reducible repeat (first | refine blk_drewN ?_ _ | refine blk_drew ?_ | refine blk_alloc ?_ _)); refine blk_far ?_ NB462_463.out _; (with_reducible repeat (first | refine blk_drewN ?_ _ | refine blk_drew ?_ | refine blk_alloc ?_ _)); exact BK462.out⟩, ⟨by (with_reducible repeat (first | refine blk_drewN ?_ _ | refine blk_drew ?_ | refine blk_alloc ?_ _)); refine blk_far ?_ NB463_462.out _; (with_reducible repeat (first | refine blk_drewN ?_ _ | refine blk_drew ?_ | refine blk_alloc ?_ _)); refine blk_far ?_ NB463_462.out _; (with_reducible repeat (first | refine blk_drewN ?_ _ | refine blk_drew ?_ | refine blk_alloc ?_ _)); refine blk_far ?_ NB463_462.out _; (with_reducible repeat (first | refine blk_drewN ?_ _ | refine blk_drew ?_ | refine blk_alloc ?_ _)); refine blk_put (cs := #[.int .i64 x463000_2, .int .i64 x463001_2, .int .i64 x464002_2]) ?_ 2 _ rfl; (with_reducible repeat (first | refine blk_drewN ?_ _ | refine blk_drew ?_ | refine blk_alloc ?_ _)); refine blk_put (cs := #[.int .i64 x463000_2, .int .i64 x464001_2, .int .i64 x464002_2]) ?_ 1 _ rfl; (with_reducible repeat (first | refine blk_drewN ?_ _ | refine blk_drew ?_ | refine blk_alloc ?_ _)); refine blk_put (cs := #[.int .i64 x464000_2, .int .i64 x464001_2, .int .i64 x464002_2]) ?_ 0 _ rfl; (with_reducible repeat (first | refine blk_drewN ?_ _ | refine blk_drew ?_ | refine blk_alloc ?_ _)); exact BK463.out⟩, ⟨blA⟩⟩
                    · rw [if_neg c56] at H
                      have c56b0 : decide (t471 < t472) = false := decide_eq_false c56
                      clear c56
                      have H' := Aside0.mk H
                      clear H
                      have hnb78 := NB462_455.out
                      have hnc78 := NB455_462.out
                      have hnb79 := NB462_456.out
                      have hnc79 := NB456_462.out
                      have hnb80 := NB462_463.out
                      have hnc80 := NB463_462.out
                      have hcz81_0 : wr.cell? ⟨gb462, 0, none⟩ = some (.int .i64 x463000_2) := (blk_cell BK462.out 0).trans rfl
                      have hcz81_1 : wr.cell? ⟨gb462, 1, none⟩ = some (.int .i64 x463001_2) := (blk_cell BK462.out 1).trans rfl
                      have hcz81_2 : wr.cell? ⟨gb462, 2, none⟩ = some (.int .i64 x463002_2) := (blk_cell BK462.out 2).trans rfl
                      have hfz81_0 := blk_frozen BK462.out 0
                      have hfz81_1 := blk_frozen BK462.out 1
                      have hfz81_2 := blk_frozen BK462.out 2
                      have hnb82 := NB463_455.out
                      have hnc82 := NB455_463.out
                      have hnb83 := NB463_456.out
                      have hnc83 := NB456_463.out
                      have hcz84_0 : wr.cell? ⟨gb463, 0, none⟩ = some (.int .i64 x464000_2) := (blk_cell BK463.out 0).trans rfl
                      have hcz84_1 : wr.cell? ⟨gb463, 1, none⟩ = some (.int .i64 x464001_2) := (blk_cell BK463.out 1).trans rfl
                      have hcz84_2 : wr.cell? ⟨gb463, 2, none⟩ = some (.int .i64 x464002_2) := (blk_cell BK463.out 2).trans rfl
                      have hfz84_0 := blk_frozen BK463.out 0
                      have hfz84_1 := blk_frozen BK463.out 1
                      have hfz84_2 := blk_frozen BK463.out 2
                      try go_wp2_with (first | ((with_reducible refine gate_callee (f := 68) rfl ?_); refine goesL_ (some 53) rfl rfl Try.func68 (by kernel_rfl) rfl #[.int .i64 a0, .agg #[.int .i64 x463000_2, .int .i64 x463001_2, .int .i64 x463002_2], .agg #[.int .i64 x464000_2, .int .i64 x464001_2, .int .i64 x464002_2], .bool x12_2, .int .i64 x15_2] rfl (by (try simp only [List.map_toArray, List.map_cons, List.map_nil]); first | done | rfl | (simp only [List.length_drop, List.length_take]; rfl)) ?_; (with_reducible refine (spec_l07Next.calls k2 a0 x463000_2 x463001_2 x463002_2 x464000_2 x464001_2 x464002_2 x12_2 x15_2 t466 t467 t468 true _ A52.out).mono ?_); rintro e w85 ⟨rfl, hb⟩; refine ⟨_, rfl, ?_⟩; have n0_ := Aside0.mk (blk_below (bkA BK455) hb); have n1_ := Aside0.mk (blk_below (bkA BK456) hb); have n2_ := Aside0.mk (blk_below (bkA BK462) hb); have n3_ := Aside0.mk (blk_below (bkA BK463) hb); have n4_ := Aside0.mk (below_step blA hb); clear BK455; clear BK456; clear BK462; clear BK463; clear HB; have BK455 := n0_; have BK456 := n1_; have BK462 := n2_; have BK463 := n3_; have HB := n4_; clear n0_ n1_ n2_ n3_ n4_; (try clear hb); (try clear hb2); (try clear hk); (try clear hi)) | ((with_reducible refine gate_dst (N := 16) rfl ?_); refine box_event ?hg (N := 16) ?hd (cs := #[.int .i64 0, .int .i64 0, .int .i64 0]) (t := 34) ?hr ?_; (case hd => rfl); (case hg => rfl); (case hr => first | (go_simp; done) | (go_simp; rfl)); intro gb470 hg w86 hbox hb; have n0_ := Aside0.mk (blk_below (bkA BK455) hb); have n1_ := Aside0.mk (blk_below (bkA BK456) hb); have n2_ := Aside0.mk (blk_below (bkA BK462) hb); have n3_ := Aside0.mk (blk_below (bkA BK463) hb); have n4_ := Aside0.mk (below_step blA hb); have n5_ := Aside0.mk (hbox); have n6_ := Aside0.mk (szA hg blA); have n7_ := Aside0.mk (szA hg blA); have n8_ := Aside0.mk (neA hg (bkA BK455)); have n9_ := Aside0.mk (neB hg (bkA BK455)); have n10_ := Aside0.mk (neA hg (bkA BK456)); have n11_ := Aside0.mk (neB hg (bkA BK456)); have n12_ := Aside0.mk (neA hg (bkA BK462)); have n13_ := Aside0.mk (neB hg (bkA BK462)); have n14_ := Aside0.mk (neA hg (bkA BK463)); have n15_ := Aside0.mk (neB hg (bkA BK463)); clear BK455; clear BK456; clear BK462; clear BK463; clear HB; have BK455 := n0_; have BK456 := n1_; have BK462 := n2_; have BK463 := n3_; have HB := n4_; have BK470 := n5_; have GW470 := n6_; have GE470 := n7_; have NB455_470 := n8_; have NB470_455 := n9_; have NB456_470 := n10_; have NB470_456 := n11_; have NB462_470 := n12_; have NB470_462 := n13_; have NB463_470 := n14_; have NB470_463 := n15_; clear n0_ n1_ n2_ n3_ n4_ n5_ n6_ n7_ n8_ n9_ n10_ n11_ n12_ n13_ n14_ n15_; clear hb hbox hg; have hnb87 := NB470_455.out; have hnc87 := NB455_470.out; have hnb88 := NB470_456.out; have hnc88 := NB456_470.out; have hnb89 := NB470_462.out; have hnc89 := NB462_470.out; have hnb90 := NB470_463.out; have hnc90 := NB463_470.out; have hcz91_0 : w86.cell? ⟨gb470, 0, none⟩ = some (.int .i64 0) := (blk_cell BK470.out 0).trans rfl; have hcz91_1 : w86.cell? ⟨gb470, 1, none⟩ = some (.int .i64 0) := (blk_cell BK470.out 1).trans rfl; have hcz91_2 : w86.cell? ⟨gb470, 2, none⟩ = some (.int .i64 0) := (blk_cell BK470.out 2).trans rfl; have hfz91_0 := blk_frozen BK470.out 0; have hfz91_1 := blk_frozen BK470.out 1; have hfz91_2 := blk_frozen BK470.out 2))
                      have n0_ : Aside0 ((((w86.setCell ⟨gb470, 0, none⟩ (.int .i64 t466)).setCell ⟨gb470, 1, none⟩ (.int .i64 t467)).setCell ⟨gb470, 2, none⟩ (.int .i64 t468)).heap[gb455]? = some (.cells #[.int .i64 a1_0, .int .i64 a1_1, .int .i64 a1_2] 34 (0, 0))) := ⟨by (with_reducible repeat (first | refine blk_drewN ?_ _ | refine blk_drew ?_ | refine blk_alloc ?_ _)); refine blk_far ?_ NB455_470.out _; (with_reducible repeat (first | refine blk_drewN ?_ _ | refine blk_drew ?_ | refine blk_alloc ?_ _)); refine blk_far ?_ NB455_470.out _; (with_reducible repeat (first | refine blk_drewN ?_ _ | refine blk_drew ?_ | refine blk_alloc ?_ _)); refine blk_far ?_ NB455_470.out _; (with_reducible repeat (first | refine blk_drewN ?_ _ | refine blk_drew ?_ | refine blk_alloc ?_ _)); exact BK455.out⟩
                      have n1_ : Aside0 ((((w86.setCell ⟨gb470, 0, none⟩ (.int .i64 t466)).setCell ⟨gb470, 1, none⟩ (.int .i64 t467)).setCell ⟨gb470, 2, none⟩ (.int .i64 t468)).heap[gb456]? = some (.cells #[.int .i64 a2_0, .int .i64 a2_1, .int .i64 a2_2] 34 (0, 0))) := ⟨by (with_reducible repeat (first | refine blk_drewN ?_ _ | refine blk_drew ?_ | refine blk_alloc ?_ _)); refine blk_far ?_ NB456_470.out _; (with_reducible repeat (first | refine blk_drewN ?_ _ | refine blk_drew ?_ | refine blk_alloc ?_ _)); refine blk_far ?_ NB456_470.out _; (with_reducible repeat (first | refine blk_drewN ?_ _ | refine blk_drew ?_ | refine blk_alloc ?_ _)); refine blk_far ?_ NB456_470.out _; (with_reducible repeat (first | refine blk_drewN ?_ _ | refine blk_drew ?_ | refine blk_alloc ?_ _)); exact BK456.out⟩
                      have n2_ : Aside0 ((((w86.setCell ⟨gb470, 0, none⟩ (.int .i64 t466)).setCell ⟨gb470, 1, none⟩ (.int .i64 t467)).setCell ⟨gb470, 2, none⟩ (.int .i64 t468)).heap[gb462]? = some (.cells #[.int .i64 x463000_2, .int .i64 x463001_2, .int .i64 x463002_2] 34 (0, 0))) := ⟨by (with_reducible repeat (first | refine blk_drewN ?_ _ | refine blk_drew ?_ | refine blk_alloc ?_ _)); refine blk_far ?_ NB462_470.out _; (with_reducible repeat (first | refine blk_drewN ?_ _ | refine blk_drew ?_ | refine blk_alloc ?_ _)); refine blk_far ?_ NB462_470.out _; (with_reducible repeat (first | refine blk_drewN ?_ _ | refine blk_drew ?_ | refine blk_alloc ?_ _)); refine blk_far ?_ NB462_470.out _; (with_reducible repeat (first | refine blk_drewN ?_ _ | refine blk_drew ?_ | refine blk_alloc ?_ _)); exact BK462.out⟩
                      have n3_ : Aside0 ((((w86.setCell ⟨gb470, 0, none⟩ (.int .i64 t466)).setCell ⟨gb470, 1, none⟩ (.int .i64 t467)).setCell ⟨gb470, 2, none⟩ (.int .i64 t468)).heap[gb463]? = some (.cells #[.int .i64 x464000_2, .int .i64 x464001_2, .int .i64 x464002_2] 34 (0, 0))) := ⟨by (with_reducible repeat (first | refine blk_drewN ?_ _ | refine blk_drew ?_ | refine blk_alloc ?_ _)); refine blk_far ?_ NB463_470.out _; (with_reducible repeat (first | refine blk_drewN ?_ _ | refine blk_drew ?_ | refine blk_alloc ?_ _)); refine blk_far ?_ NB463_470.out _; (with_reducible repeat (first | refine blk_drewN ?_ _ | refine blk_drew ?_ | refine blk_alloc ?_ _)); refine blk_far ?_ NB463_470.out _; (with_reducible repeat (first | refine blk_drewN ?_ _ | refine blk_drew ?_ | refine blk_alloc ?_ _)); exact BK463.out⟩
                      have n4_ : Aside0 ((((w86.setCell ⟨gb470, 0, none⟩ (.int .i64 t466)).setCell ⟨gb470, 1, none⟩ (.int .i64 t467)).setCell ⟨gb470, 2, none⟩ (.int .i64 t468)).heap[gb470]? = some (.cells #[.int .i64 t466, .int .i64 t467, .int .i64 t468] 34 (0, 0))) := ⟨by (with_reducible repeat (first | refine blk_drewN ?_ _ | refine blk_drew ?_ | refine blk_alloc ?_ _)); refine blk_put (cs := #[.int .i64 t466, .int .i64 t467, .int .i64 0]) ?_ 2 _ rfl; (with_reducible repeat (first | refine blk_drewN ?_ _ | refine blk_drew ?_ | refine blk_alloc ?_ _)); refine blk_put (cs := #[.int .i64 t466, .int .i64 0, .int .i64 0]) ?_ 1 _ rfl; (with_reducible repeat (first | refine blk_drewN ?_ _ | refine blk_drew ?_ | refine blk_alloc ?_ _)); refine blk_put (cs := #[.int .i64 0, .int .i64 0, .int .i64 0]) ?_ 0 _ rfl; (with_reducible repeat (first | refine blk_drewN ?_ _ | refine blk_drew ?_ | refine blk_alloc ?_ _)); exact BK470.out⟩
                      have n5_ : Aside0 (Below w.heap.size w (((w86.setCell ⟨gb470, 0, none⟩ (.int .i64 t466)).setCell ⟨gb470, 1, none⟩ (.int .i64 t467)).setCell ⟨gb470, 2, none⟩ (.int .i64 t468))) := ⟨blA⟩
                      (try clear BK455)
                      (try clear BK456)
                      (try clear BK462)
                      (try clear BK463)
                      (try clear BK470)
                      (try clear HB)
                      generalize (((w86.setCell ⟨gb470, 0, none⟩ (.int .i64 t466)).setCell ⟨gb470, 1, none⟩ (.int .i64 t467)).setCell ⟨gb470, 2, none⟩ (.int .i64 t468)) = w92 at n0_ n1_ n2_ n3_ n4_ n5_ ⊢
                      have BK455 := n0_
                      have BK456 := n1_
                      have BK462 := n2_
                      have BK463 := n3_
                      have BK470 := n4_
                      have HB := n5_
                      clear n0_ n1_ n2_ n3_ n4_ n5_
                      have n0_ := Aside0.mk (blk_drew BK455.out)
                      have n1_ := Aside0.mk (blk_drew BK456.out)
                      have n2_ := Aside0.mk (blk_drew BK462.out)
                      have n3_ := Aside0.mk (blk_drew BK463.out)
                      have n4_ := Aside0.mk (blk_drew BK470.out)
                      have n5_ := Aside0.mk (below_drew1 HB.out)
                      clear BK455
                      clear BK456
                      clear BK462
                      clear BK463
                      clear BK470
                      clear HB
                      have BK455 := n0_
                      have BK456 := n1_
                      have BK462 := n2_
                      have BK463 := n3_
                      have BK470 := n4_
                      have HB := n5_
                      clear n0_ n1_ n2_ n3_ n4_ n5_
                      refine start_ (n := 12) (S := fun w' => w'.cell? ⟨gb470, 0, none⟩ = some (.int .i64 t466) ∧ w'.cell? ⟨gb470, 1, none⟩ = some (.int .i64 t467) ∧ w'.cell? ⟨gb470, 2, none⟩ = some (.int .i64 t468) ∧ w'.cell? ⟨gb456, 0, none⟩ = some (.int .i64 a2_0) ∧ w'.cell? ⟨gb456, 1, none⟩ = some (.int .i64 a2_1) ∧ w'.cell? ⟨gb456, 2, none⟩ = some (.int .i64 a2_2) ∧ w'.cell? ⟨gb462, 0, none⟩ = some (.int .i64 x463000_2) ∧ w'.cell? ⟨gb462, 1, none⟩ = some (.int .i64 x463001_2) ∧ w'.cell? ⟨gb462, 2, none⟩ = some (.int .i64 x463002_2)) (ds := []) #[false, false, false, false, false, false, false, false, false, false, false, false] (by kernel_rfl) rfl rfl ⟨(blk_cell BK470.out 0).trans rfl, (blk_cell BK470.out 1).trans rfl, (blk_cell BK470.out 2).trans rfl, (blk_cell BK456.out 0).trans rfl, (blk_cell BK456.out 1).trans rfl, (blk_cell BK456.out 2).trans rfl, (blk_cell BK462.out 0).trans rfl, (blk_cell BK462.out 1).trans rfl, (blk_cell BK462.out 2).trans rfl⟩ (fun hHeld => ?_); refine with_tabW spec_PlaceOfBall.tab13 spec_PlaceOfBall.bits13 (fun HT_ HW_ => ?_)
                      generalize w92.drew = w93 at BK455 BK456 BK462 BK463 BK470 HB hHeld ⊢
                      refine pure_ (i := 0) (N := some 56) (v := ?_) (a' := ?_) #[true, false, false, false, false, false, false, false, false, false, false, false] rfl rfl (any_of HT_.out (by kernel_rfl)) (fun _ _ _ h => h) (Or.inl ⟨by rfl, ?_⟩) ?_ ?_
                      rotate_left
                      · intro w'
                        go_simp
                        with_reducible rfl
                      rotate_left
                      · simp only [Act.put, List.setIfInBounds_toArray, List.set_cons_zero, List.set_cons_succ, i64_w, i32_w]
                        rfl
                      refine pure_ (i := 1) (N := some 57) (v := ?_) (a' := ?_) #[true, true, false, false, false, false, false, false, false, false, false, false] rfl rfl (any_of HT_.out (by kernel_rfl)) (fun _ _ _ h => h) (Or.inl ⟨by rfl, ?_⟩) ?_ ?_
                      rotate_left
                      · intro w'
                        go_simp
                        with_reducible rfl
                      rotate_left
                      · simp only [Act.put, List.setIfInBounds_toArray, List.set_cons_zero, List.set_cons_succ, i64_w, i32_w]
                        rfl
                      refine pure_ (i := 2) (N := some 58) (v := ?_) (a' := ?_) #[true, true, true, false, false, false, false, false, false, false, false, false] rfl rfl (any_of HT_.out (by kernel_rfl)) (fun _ _ _ h => h) (Or.inl ⟨by rfl, ?_⟩) ?_ ?_
                      rotate_left
                      · intro w'
                        go_simp
                        with_reducible rfl
                      rotate_left
                      · simp only [Act.put, List.setIfInBounds_toArray, List.set_cons_zero, List.set_cons_succ, i64_w, i32_w]
                        rfl
                      refine pure_ (i := 6) (N := some 62) (v := ?_) (a' := ?_) #[true, true, true, false, false, false, true, false, false, false, false, false] rfl rfl (any_of HT_.out (by kernel_rfl)) (fun _ _ _ h => h) (Or.inl ⟨by rfl, ?_⟩) ?_ ?_
                      rotate_left
                      · intro w'
                        go_simp
                        with_reducible rfl
                      rotate_left
                      · simp only [Act.put, List.setIfInBounds_toArray, List.set_cons_zero, List.set_cons_succ, i64_w, i32_w]
                        rfl
                      refine take_ (i := 3) (N := some 59) (v := ?_) (a' := ?_) #[true, true, true, true, false, false, true, false, false, false, false, false] rfl rfl (take_ofW HT_.out HW_.out (by kernel_rfl)) (fun _ _ _ h => h) (Or.inl ⟨by rfl, ?_⟩) hHeld ?_ ?_
                      rotate_left
                      · rintro w' ⟨s0, s1, s2, s3, s4, s5, s6, s7, s8⟩
                        go_simp
                        with_reducible rfl
                      rotate_left
                      · simp only [Act.put, List.setIfInBounds_toArray, List.set_cons_zero, List.set_cons_succ, i64_w, i32_w]
                        rfl
                      refine take_ (i := 4) (N := some 60) (v := ?_) (a' := ?_) #[true, true, true, true, true, false, true, false, false, false, false, false] rfl rfl (take_ofW HT_.out HW_.out (by kernel_rfl)) (fun _ _ _ h => h) (Or.inl ⟨by rfl, ?_⟩) hHeld ?_ ?_
                      rotate_left
                      · rintro w' ⟨s0, s1, s2, s3, s4, s5, s6, s7, s8⟩
                        go_simp
                        with_reducible rfl
                      rotate_left
                      · simp only [Act.put, List.setIfInBounds_toArray, List.set_cons_zero, List.set_cons_succ, i64_w, i32_w]
                        rfl
                      refine take_ (i := 7) (N := some 63) (v := ?_) (a' := ?_) #[true, true, true, true, true, false, true, true, false, false, false, false] rfl rfl (take_ofW HT_.out HW_.out (by kernel_rfl)) (fun _ _ _ h => h) (Or.inl ⟨by rfl, ?_⟩) hHeld ?_ ?_
                      rotate_left
                      · rintro w' ⟨s0, s1, s2, s3, s4, s5, s6, s7, s8⟩
                        go_simp
                        with_reducible rfl
                      rotate_left
                      · simp only [Act.put, List.setIfInBounds_toArray, List.set_cons_zero, List.set_cons_succ, i64_w, i32_w]
                        rfl
                      refine take_ (i := 8) (N := some 64) (v := ?_) (a' := ?_) #[true, true, true, true, true, false, true, true, true, false, false, false] rfl rfl (take_ofW HT_.out HW_.out (by kernel_rfl)) (fun _ _ _ h => h) (Or.inl ⟨by rfl, ?_⟩) hHeld ?_ ?_
                      rotate_left
                      · rintro w' ⟨s0, s1, s2, s3, s4, s5, s6, s7, s8⟩
                        go_simp
                        with_reducible rfl
                      rotate_left
                      · simp only [Act.put, List.setIfInBounds_toArray, List.set_cons_zero, List.set_cons_succ, i64_w, i32_w]
                        rfl
                      refine one_ (i := 5) (N := some 61) #[true, true, true, true, true, true, true, true, true, false, false, false] rfl rfl (one_of HT_.out (by kernel_rfl)) (by decide) (fun K hK => ?_)
                      refine goes_ Try.func66 (by kernel_rfl) rfl #[.int .i64 a0, .agg #[.int .i64 t466, .int .i64 t467, .int .i64 t468], .agg #[.int .i64 a2_0, .int .i64 a2_1, .int .i64 a2_2]] (by rfl) rfl rfl (by (try simp only [List.map_toArray, List.map_cons, List.map_nil]); first | done | rfl | (simp only [List.length_drop, List.length_take]; rfl)) ?_
                      with_reducible refine (spec_l02Distance.calls k2 a0 t466 t467 t468 a2_0 a2_1 a2_2 t471 _ A54.out).mono ?_
                      rintro e w94 ⟨rfl, hb⟩
                      refine ⟨_, rfl, ?_⟩
                      have n0_ := Aside0.mk (blk_below (bkA BK455) hb)
                      have n1_ := Aside0.mk (blk_below (bkA BK456) hb)
                      have n2_ := Aside0.mk (blk_below (bkA BK462) hb)
                      have n3_ := Aside0.mk (blk_below (bkA BK463) hb)
                      have n4_ := Aside0.mk (blk_below (bkA BK470) hb)
                      have n5_ := Aside0.mk (below_step blA hb)
                      clear BK455
                      clear BK456
                      clear BK462
                      clear BK463
                      clear BK470
                      clear HB
                      have BK455 := n0_
                      have BK456 := n1_
                      have BK462 := n2_
                      have BK463 := n3_
                      have BK470 := n4_
                      have HB := n5_
                      clear n0_ n1_ n2_ n3_ n4_ n5_
                      (try clear hb)
                      (try clear hb2)
                      (try clear hk)
                      (try clear hi)
                      refine hK.out _ _ ⟨(blk_cell BK470.out 0).trans rfl, (blk_cell BK470.out 1).trans rfl, (blk_cell BK470.out 2).trans rfl, (blk_cell BK456.out 0).trans rfl, (blk_cell BK456.out 1).trans rfl, (blk_cell BK456.out 2).trans rfl, (blk_cell BK462.out 0).trans rfl, (blk_cell BK462.out 1).trans rfl, (blk_cell BK462.out 2).trans rfl⟩ (fun hHeld => ?_)
                      clear hK K
                      refine norm_ (a' := ?_) ?_ ?_
                      rotate_left
                      · show Act.put _ (some 61) _ = _
                        simp only [Act.put, List.setIfInBounds_toArray, List.set_cons_zero, List.set_cons_succ, i64_w, i32_w]
                        rfl
                      refine one_ (i := 9) (N := some 65) #[true, true, true, true, true, true, true, true, true, true, false, false] rfl rfl (one_of HT_.out (by kernel_rfl)) (by decide) (fun K hK => ?_)
                      refine goes_ Try.func66 (by kernel_rfl) rfl #[.int .i64 a0, .agg #[.int .i64 x463000_2, .int .i64 x463001_2, .int .i64 x463002_2], .agg #[.int .i64 a2_0, .int .i64 a2_1, .int .i64 a2_2]] (by rfl) rfl rfl (by (try simp only [List.map_toArray, List.map_cons, List.map_nil]); first | done | rfl | (simp only [List.length_drop, List.length_take]; rfl)) ?_
                      with_reducible refine (spec_l02Distance.calls k2 a0 x463000_2 x463001_2 x463002_2 a2_0 a2_1 a2_2 t472 _ A55.out).mono ?_
                      rintro e w95 ⟨rfl, hb⟩
                      refine ⟨_, rfl, ?_⟩
                      have n0_ := Aside0.mk (blk_below (bkA BK455) hb)
                      have n1_ := Aside0.mk (blk_below (bkA BK456) hb)
                      have n2_ := Aside0.mk (blk_below (bkA BK462) hb)
                      have n3_ := Aside0.mk (blk_below (bkA BK463) hb)
                      have n4_ := Aside0.mk (blk_below (bkA BK470) hb)
                      have n5_ := Aside0.mk (below_step blA hb)
                      clear BK455
                      clear BK456
                      clear BK462
                      clear BK463
                      clear BK470
                      clear HB
                      have BK455 := n0_
                      have BK456 := n1_
                      have BK462 := n2_
                      have BK463 := n3_
                      have BK470 := n4_
                      have HB := n5_
                      clear n0_ n1_ n2_ n3_ n4_ n5_
                      (try clear hb)
                      (try clear hb2)
                      (try clear hk)
                      (try clear hi)
                      refine hK.out _ _ ⟨(blk_cell BK470.out 0).trans rfl, (blk_cell BK470.out 1).trans rfl, (blk_cell BK470.out 2).trans rfl, (blk_cell BK456.out 0).trans rfl, (blk_cell BK456.out 1).trans rfl, (blk_cell BK456.out 2).trans rfl, (blk_cell BK462.out 0).trans rfl, (blk_cell BK462.out 1).trans rfl, (blk_cell BK462.out 2).trans rfl⟩ (fun hHeld => ?_)
                      clear hK K
                      refine norm_ (a' := ?_) ?_ ?_
                      rotate_left
                      · show Act.put _ (some 65) _ = _
                        simp only [Act.put, List.setIfInBounds_toArray, List.set_cons_zero, List.set_cons_succ, i64_w, i32_w]
                        rfl
                      refine pure_ (i := 10) (N := some 66) (v := ?_) (a' := ?_) #[true, true, true, true, true, true, true, true, true, true, true, false] rfl rfl (any_of HT_.out (by kernel_rfl)) (fun _ _ _ h => h) (Or.inl ⟨by rfl, ?_⟩) ?_ ?_
                      rotate_left
                      · intro w'
                        go_simp
                        with_reducible rfl
                      rotate_left
                      · simp only [Act.put, List.setIfInBounds_toArray, List.set_cons_zero, List.set_cons_succ, i64_w, i32_w]
                        rfl
                      refine pure_ (i := 11) (N := some 67) (v := ?_) (a' := ?_) #[true, true, true, true, true, true, true, true, true, true, true, true] rfl rfl (any_of HT_.out (by kernel_rfl)) (fun _ _ _ h => h) (Or.inl ⟨by rfl, ?_⟩) ?_ ?_
                      rotate_left
                      · intro w'
                        go_simp
                        with_reducible rfl
                      rotate_left
                      · simp only [Act.put, List.setIfInBounds_toArray, List.set_cons_zero, List.set_cons_succ, i64_w, i32_w]
                        rfl
                      refine done_ (done_of HT_.out (by kernel_rfl)) ?_
                      try go_wp2
                      go_roundg k2
                      case measure => have := HK1.out; have := HK2.out; omega
                      case rel => exact ⟨(x9_2), (x12_2), (wrap64 (x15_2 + 1)), (x463000_2), (x463001_2), (x463002_2), (x464000_2), (x464001_2), (x464002_2), (by first | rfl | (simp; done) | (simp [*]; done)), (by first | rfl | (simp; done) | (simp [*]; done)), (by first | rfl | (simp; done) | (simp [*]; done)), H', ⟨by have := HK1.out; have := HK2.out; omega⟩, ⟨bkA BK455⟩, ⟨bkA BK456⟩, ⟨bkA BK462⟩, ⟨bkA BK463⟩, ⟨blA⟩⟩
                  · replace c53 := Bool.eq_false_iff.mpr c53
                    subst c53
                    have H1 : (spec_PlaceOfBall.l1 k2 a0 x9_2 x12_2 t464 t465 (wrap64 (x15_2 + 1)) a2_0 a2_1 a2_2 x463000_2 x463001_2 x463002_2 x464000_2 x464001_2 x464002_2) = some (r1, r2) := by rw [if_neg (show ¬ (false = true) by decide)] at H; exact H
                    clear H
                    have H := H1
                    clear H1
                    have H' := Aside0.mk H
                    clear H
                    have hnb96 := NB462_455.out
                    have hnc96 := NB455_462.out
                    have hnb97 := NB462_456.out
                    have hnc97 := NB456_462.out
                    have hnb98 := NB462_463.out
                    have hnc98 := NB463_462.out
                    have hcz99_0 : wr.cell? ⟨gb462, 0, none⟩ = some (.int .i64 x463000_2) := (blk_cell BK462.out 0).trans rfl
                    have hcz99_1 : wr.cell? ⟨gb462, 1, none⟩ = some (.int .i64 x463001_2) := (blk_cell BK462.out 1).trans rfl
                    have hcz99_2 : wr.cell? ⟨gb462, 2, none⟩ = some (.int .i64 x463002_2) := (blk_cell BK462.out 2).trans rfl
                    have hfz99_0 := blk_frozen BK462.out 0
                    have hfz99_1 := blk_frozen BK462.out 1
                    have hfz99_2 := blk_frozen BK462.out 2
                    have hnb100 := NB463_455.out
                    have hnc100 := NB455_463.out
                    have hnb101 := NB463_456.out
                    have hnc101 := NB456_463.out
                    have hcz102_0 : wr.cell? ⟨gb463, 0, none⟩ = some (.int .i64 x464000_2) := (blk_cell BK463.out 0).trans rfl
                    have hcz102_1 : wr.cell? ⟨gb463, 1, none⟩ = some (.int .i64 x464001_2) := (blk_cell BK463.out 1).trans rfl
                    have hcz102_2 : wr.cell? ⟨gb463, 2, none⟩ = some (.int .i64 x464002_2) := (blk_cell BK463.out 2).trans rfl
                    have hfz102_0 := blk_frozen BK463.out 0
                    have hfz102_1 := blk_frozen BK463.out 1
                    have hfz102_2 := blk_frozen BK463.out 2
                    try go_wp2_with (first | ((with_reducible refine gate_callee (f := 68) rfl ?_); refine goesL_ (some 53) rfl rfl Try.func68 (by kernel_rfl) rfl #[.int .i64 a0, .agg #[.int .i64 x463000_2, .int .i64 x463001_2, .int .i64 x463002_2], .agg #[.int .i64 x464000_2, .int .i64 x464001_2, .int .i64 x464002_2], .bool x12_2, .int .i64 x15_2] rfl (by (try simp only [List.map_toArray, List.map_cons, List.map_nil]); first | done | rfl | (simp only [List.length_drop, List.length_take]; rfl)) ?_; (with_reducible refine (spec_l07Next.calls k2 a0 x463000_2 x463001_2 x463002_2 x464000_2 x464001_2 x464002_2 x12_2 x15_2 t466 t467 t468 false _ A52.out).mono ?_); rintro e w103 ⟨rfl, hb⟩; refine ⟨_, rfl, ?_⟩; have n0_ := Aside0.mk (blk_below (bkA BK455) hb); have n1_ := Aside0.mk (blk_below (bkA BK456) hb); have n2_ := Aside0.mk (blk_below (bkA BK462) hb); have n3_ := Aside0.mk (blk_below (bkA BK463) hb); have n4_ := Aside0.mk (below_step blA hb); clear BK455; clear BK456; clear BK462; clear BK463; clear HB; have BK455 := n0_; have BK456 := n1_; have BK462 := n2_; have BK463 := n3_; have HB := n4_; clear n0_ n1_ n2_ n3_ n4_; (try clear hb); (try clear hb2); (try clear hk); (try clear hi)) | ((with_reducible refine gate_dst (N := 16) rfl ?_); refine box_event ?hg (N := 16) ?hd (cs := #[.int .i64 0, .int .i64 0, .int .i64 0]) (t := 34) ?hr ?_; (case hd => rfl); (case hg => rfl); (case hr => first | (go_simp; done) | (go_simp; rfl)); intro gb470 hg w104 hbox hb; have n0_ := Aside0.mk (blk_below (bkA BK455) hb); have n1_ := Aside0.mk (blk_below (bkA BK456) hb); have n2_ := Aside0.mk (blk_below (bkA BK462) hb); have n3_ := Aside0.mk (blk_below (bkA BK463) hb); have n4_ := Aside0.mk (below_step blA hb); have n5_ := Aside0.mk (hbox); have n6_ := Aside0.mk (szA hg blA); have n7_ := Aside0.mk (szA hg blA); have n8_ := Aside0.mk (neA hg (bkA BK455)); have n9_ := Aside0.mk (neB hg (bkA BK455)); have n10_ := Aside0.mk (neA hg (bkA BK456)); have n11_ := Aside0.mk (neB hg (bkA BK456)); have n12_ := Aside0.mk (neA hg (bkA BK462)); have n13_ := Aside0.mk (neB hg (bkA BK462)); have n14_ := Aside0.mk (neA hg (bkA BK463)); have n15_ := Aside0.mk (neB hg (bkA BK463)); clear BK455; clear BK456; clear BK462; clear BK463; clear HB; have BK455 := n0_; have BK456 := n1_; have BK462 := n2_; have BK463 := n3_; have HB := n4_; have BK470 := n5_; have GW470 := n6_; have GE470 := n7_; have NB455_470 := n8_; have NB470_455 := n9_; have NB456_470 := n10_; have NB470_456 := n11_; have NB462_470 := n12_; have NB470_462 := n13_; have NB463_470 := n14_; have NB470_463 := n15_; clear n0_ n1_ n2_ n3_ n4_ n5_ n6_ n7_ n8_ n9_ n10_ n11_ n12_ n13_ n14_ n15_; clear hb hbox hg; have hnb105 := NB470_455.out; have hnc105 := NB455_470.out; have hnb106 := NB470_456.out; have hnc106 := NB456_470.out; have hnb107 := NB470_462.out; have hnc107 := NB462_470.out; have hnb108 := NB470_463.out; have hnc108 := NB463_470.out; have hcz109_0 : w104.cell? ⟨gb470, 0, none⟩ = some (.int .i64 0) := (blk_cell BK470.out 0).trans rfl; have hcz109_1 : w104.cell? ⟨gb470, 1, none⟩ = some (.int .i64 0) := (blk_cell BK470.out 1).trans rfl; have hcz109_2 : w104.cell? ⟨gb470, 2, none⟩ = some (.int .i64 0) := (blk_cell BK470.out 2).trans rfl; have hfz109_0 := blk_frozen BK470.out 0; have hfz109_1 := blk_frozen BK470.out 1; have hfz109_2 := blk_frozen BK470.out 2))
                    have n0_ : Aside0 ((((w104.setCell ⟨gb470, 0, none⟩ (.int .i64 t466)).setCell ⟨gb470, 1, none⟩ (.int .i64 t467)).setCell ⟨gb470, 2, none⟩ (.int .i64 t468)).heap[gb455]? = some (.cells #[.int .i64 a1_0, .int .i64 a1_1, .int .i64 a1_2] 34 (0, 0))) := ⟨by (with_reducible repeat (first | refine blk_drewN ?_ _ | refine blk_drew ?_ | refine blk_alloc ?_ _)); refine blk_far ?_ NB455_470.out _; (with_reducible repeat (first | refine blk_drewN ?_ _ | refine blk_drew ?_ | refine blk_alloc ?_ _)); refine blk_far ?_ NB455_470.out _; (with_reducible repeat (first | refine blk_drewN ?_ _ | refine blk_drew ?_ | refine blk_alloc ?_ _)); refine blk_far ?_ NB455_470.out _; (with_reducible repeat (first | refine blk_drewN ?_ _ | refine blk_drew ?_ | refine blk_alloc ?_ _)); exact BK455.out⟩
                    have n1_ : Aside0 ((((w104.setCell ⟨gb470, 0, none⟩ (.int .i64 t466)).setCell ⟨gb470, 1, none⟩ (.int .i64 t467)).setCell ⟨gb470, 2, none⟩ (.int .i64 t468)).heap[gb456]? = some (.cells #[.int .i64 a2_0, .int .i64 a2_1, .int .i64 a2_2] 34 (0, 0))) := ⟨by (with_reducible repeat (first | refine blk_drewN ?_ _ | refine blk_drew ?_ | refine blk_alloc ?_ _)); refine blk_far ?_ NB456_470.out _; (with_reducible repeat (first | refine blk_drewN ?_ _ | refine blk_drew ?_ | refine blk_alloc ?_ _)); refine blk_far ?_ NB456_470.out _; (with_reducible repeat (first | refine blk_drewN ?_ _ | refine blk_drew ?_ | refine blk_alloc ?_ _)); refine blk_far ?_ NB456_470.out _; (with_reducible repeat (first | refine blk_drewN ?_ _ | refine blk_drew ?_ | refine blk_alloc ?_ _)); exact BK456.out⟩
                    have n2_ : Aside0 ((((w104.setCell ⟨gb470, 0, none⟩ (.int .i64 t466)).setCell ⟨gb470, 1, none⟩ (.int .i64 t467)).setCell ⟨gb470, 2, none⟩ (.int .i64 t468)).heap[gb462]? = some (.cells #[.int .i64 x463000_2, .int .i64 x463001_2, .int .i64 x463002_2] 34 (0, 0))) := ⟨by (with_reducible repeat (first | refine blk_drewN ?_ _ | refine blk_drew ?_ | refine blk_alloc ?_ _)); refine blk_far ?_ NB462_470.out _; (with_reducible repeat (first | refine blk_drewN ?_ _ | refine blk_drew ?_ | refine blk_alloc ?_ _)); refine blk_far ?_ NB462_470.out _; (with_reducible repeat (first | refine blk_drewN ?_ _ | refine blk_drew ?_ | refine blk_alloc ?_ _)); refine blk_far ?_ NB462_470.out _; (with_reducible repeat (first | refine blk_drewN ?_ _ | refine blk_drew ?_ | refine blk_alloc ?_ _)); exact BK462.out⟩
                    have n3_ : Aside0 ((((w104.setCell ⟨gb470, 0, none⟩ (.int .i64 t466)).setCell ⟨gb470, 1, none⟩ (.int .i64 t467)).setCell ⟨gb470, 2, none⟩ (.int .i64 t468)).heap[gb463]? = some (.cells #[.int .i64 x464000_2, .int .i64 x464001_2, .int .i64 x464002_2] 34 (0, 0))) := ⟨by (with_reducible repeat (first | refine blk_drewN ?_ _ | refine blk_drew ?_ | refine blk_alloc ?_ _)); refine blk_far ?_ NB463_470.out _; (with_reducible repeat (first | refine blk_drewN ?_ _ | refine blk_drew ?_ | refine blk_alloc ?_ _)); refine blk_far ?_ NB463_470.out _; (with_reducible repeat (first | refine blk_drewN ?_ _ | refine blk_drew ?_ | refine blk_alloc ?_ _)); refine blk_far ?_ NB463_470.out _; (with_reducible repeat (first | refine blk_drewN ?_ _ | refine blk_drew ?_ | refine blk_alloc ?_ _)); exact BK463.out⟩
                    have n4_ : Aside0 ((((w104.setCell ⟨gb470, 0, none⟩ (.int .i64 t466)).setCell ⟨gb470, 1, none⟩ (.int .i64 t467)).setCell ⟨gb470, 2, none⟩ (.int .i64 t468)).heap[gb470]? = some (.cells #[.int .i64 t466, .int .i64 t467, .int .i64 t468] 34 (0, 0))) := ⟨by (with_reducible repeat (first | refine blk_drewN ?_ _ | refine blk_drew ?_ | refine blk_alloc ?_ _)); refine blk_put (cs := #[.int .i64 t466, .int .i64 t467, .int .i64 0]) ?_ 2 _ rfl; (with_reducible repeat (first | refine blk_drewN ?_ _ | refine blk_drew ?_ | refine blk_alloc ?_ _)); refine blk_put (cs := #[.int .i64 t466, .int .i64 0, .int .i64 0]) ?_ 1 _ rfl; (with_reducible repeat (first | refine blk_drewN ?_ _ | refine blk_drew ?_ | refine blk_alloc ?_ _)); refine blk_put (cs := #[.int .i64 0, .int .i64 0, .int .i64 0]) ?_ 0 _ rfl; (with_reducible repeat (first | refine blk_drewN ?_ _ | refine blk_drew ?_ | refine blk_alloc ?_ _)); exact BK470.out⟩
                    have n5_ : Aside0 (Below w.heap.size w (((w104.setCell ⟨gb470, 0, none⟩ (.int .i64 t466)).setCell ⟨gb470, 1, none⟩ (.int .i64 t467)).setCell ⟨gb470, 2, none⟩ (.int .i64 t468))) := ⟨blA⟩
                    (try clear BK455)
                    (try clear BK456)
                    (try clear BK462)
                    (try clear BK463)
                    (try clear BK470)
                    (try clear HB)
                    generalize (((w104.setCell ⟨gb470, 0, none⟩ (.int .i64 t466)).setCell ⟨gb470, 1, none⟩ (.int .i64 t467)).setCell ⟨gb470, 2, none⟩ (.int .i64 t468)) = w110 at n0_ n1_ n2_ n3_ n4_ n5_ ⊢
                    have BK455 := n0_
                    have BK456 := n1_
                    have BK462 := n2_
                    have BK463 := n3_
                    have BK470 := n4_
                    have HB := n5_
                    clear n0_ n1_ n2_ n3_ n4_ n5_
                    have n0_ := Aside0.mk (blk_drew BK455.out)
                    have n1_ := Aside0.mk (blk_drew BK456.out)
                    have n2_ := Aside0.mk (blk_drew BK462.out)
                    have n3_ := Aside0.mk (blk_drew BK463.out)
                    have n4_ := Aside0.mk (blk_drew BK470.out)
                    have n5_ := Aside0.mk (below_drew1 HB.out)
                    clear BK455
                    clear BK456
                    clear BK462
                    clear BK463
                    clear BK470
                    clear HB
                    have BK455 := n0_
                    have BK456 := n1_
                    have BK462 := n2_
                    have BK463 := n3_
                    have BK470 := n4_
                    have HB := n5_
                    clear n0_ n1_ n2_ n3_ n4_ n5_
                    refine start_ (n := 12) (S := fun w' => True) (ds := []) #[false, false, false, false, false, false, false, false, false, false, false, false] (by kernel_rfl) rfl rfl trivial (fun hHeld => ?_); refine with_tabW spec_PlaceOfBall.tab13 spec_PlaceOfBall.bits13 (fun HT_ HW_ => ?_)
                    generalize w110.drew = w111 at BK455 BK456 BK462 BK463 BK470 HB hHeld ⊢
                    refine pure_ (i := 0) (N := some 56) (v := ?_) (a' := ?_) #[true, false, false, false, false, false, false, false, false, false, false, false] rfl rfl (any_of HT_.out (by kernel_rfl)) (fun _ _ _ h => h) (Or.inl ⟨by rfl, ?_⟩) ?_ ?_
                    rotate_left
                    · intro w'
                      go_simp
                      with_reducible rfl
                    rotate_left
                    · simp only [Act.put, List.setIfInBounds_toArray, List.set_cons_zero, List.set_cons_succ, i64_w, i32_w]
                      rfl
                    refine pure_ (i := 1) (N := some 57) (v := ?_) (a' := ?_) #[true, true, false, false, false, false, false, false, false, false, false, false] rfl rfl (any_of HT_.out (by kernel_rfl)) (fun _ _ _ h => h) (Or.inl ⟨by rfl, ?_⟩) ?_ ?_
                    rotate_left
                    · intro w'
                      go_simp
                      with_reducible rfl
                    rotate_left
                    · simp only [Act.put, List.setIfInBounds_toArray, List.set_cons_zero, List.set_cons_succ, i64_w, i32_w]
                      rfl
                    refine pure_ (i := 2) (N := some 58) (v := undef) (a' := ?_) #[true, true, true, false, false, false, false, false, false, false, false, false] rfl rfl (any_of HT_.out (by kernel_rfl)) (fun _ _ _ h => h) (Or.inr ⟨by rfl, rfl⟩) ?_ ?_
                    rotate_left
                    · simp only [Act.put, List.setIfInBounds_toArray, List.set_cons_zero, List.set_cons_succ, i64_w, i32_w]
                      rfl
                    refine pure_ (i := 3) (N := some 59) (v := undef) (a' := ?_) #[true, true, true, true, false, false, false, false, false, false, false, false] rfl rfl (any_of HT_.out (by kernel_rfl)) (fun _ _ _ h => h) (Or.inr ⟨by rfl, rfl⟩) ?_ ?_
                    rotate_left
                    · simp only [Act.put, List.setIfInBounds_toArray, List.set_cons_zero, List.set_cons_succ, i64_w, i32_w]
                      rfl
                    refine pure_ (i := 4) (N := some 60) (v := undef) (a' := ?_) #[true, true, true, true, true, false, false, false, false, false, false, false] rfl rfl (any_of HT_.out (by kernel_rfl)) (fun _ _ _ h => h) (Or.inr ⟨by rfl, rfl⟩) ?_ ?_
                    rotate_left
                    · simp only [Act.put, List.setIfInBounds_toArray, List.set_cons_zero, List.set_cons_succ, i64_w, i32_w]
                      rfl
                    refine pure_ (i := 5) (N := some 61) (v := undef) (a' := ?_) #[true, true, true, true, true, true, false, false, false, false, false, false] rfl rfl (any_of HT_.out (by kernel_rfl)) (fun _ _ _ h => h) (Or.inr ⟨by rfl, rfl⟩) ?_ ?_
                    rotate_left
                    · simp only [Act.put, List.setIfInBounds_toArray, List.set_cons_zero, List.set_cons_succ, i64_w, i32_w]
                      rfl
                    refine pure_ (i := 6) (N := some 62) (v := undef) (a' := ?_) #[true, true, true, true, true, true, true, false, false, false, false, false] rfl rfl (any_of HT_.out (by kernel_rfl)) (fun _ _ _ h => h) (Or.inr ⟨by rfl, rfl⟩) ?_ ?_
                    rotate_left
                    · simp only [Act.put, List.setIfInBounds_toArray, List.set_cons_zero, List.set_cons_succ, i64_w, i32_w]
                      rfl
                    refine pure_ (i := 7) (N := some 63) (v := undef) (a' := ?_) #[true, true, true, true, true, true, true, true, false, false, false, false] rfl rfl (any_of HT_.out (by kernel_rfl)) (fun _ _ _ h => h) (Or.inr ⟨by rfl, rfl⟩) ?_ ?_
                    rotate_left
                    · simp only [Act.put, List.setIfInBounds_toArray, List.set_cons_zero, List.set_cons_succ, i64_w, i32_w]
                      rfl
                    refine pure_ (i := 8) (N := some 64) (v := undef) (a' := ?_) #[true, true, true, true, true, true, true, true, true, false, false, false] rfl rfl (any_of HT_.out (by kernel_rfl)) (fun _ _ _ h => h) (Or.inr ⟨by rfl, rfl⟩) ?_ ?_
                    rotate_left
                    · simp only [Act.put, List.setIfInBounds_toArray, List.set_cons_zero, List.set_cons_succ, i64_w, i32_w]
                      rfl
                    refine pure_ (i := 9) (N := some 65) (v := undef) (a' := ?_) #[true, true, true, true, true, true, true, true, true, true, false, false] rfl rfl (any_of HT_.out (by kernel_rfl)) (fun _ _ _ h => h) (Or.inr ⟨by rfl, rfl⟩) ?_ ?_
                    rotate_left
                    · simp only [Act.put, List.setIfInBounds_toArray, List.set_cons_zero, List.set_cons_succ, i64_w, i32_w]
                      rfl
                    refine pure_ (i := 10) (N := some 66) (v := undef) (a' := ?_) #[true, true, true, true, true, true, true, true, true, true, true, false] rfl rfl (any_of HT_.out (by kernel_rfl)) (fun _ _ _ h => h) (Or.inr ⟨by rfl, rfl⟩) ?_ ?_
                    rotate_left
                    · simp only [Act.put, List.setIfInBounds_toArray, List.set_cons_zero, List.set_cons_succ, i64_w, i32_w]
                      rfl
                    refine pure_ (i := 11) (N := some 67) (v := ?_) (a' := ?_) #[true, true, true, true, true, true, true, true, true, true, true, true] rfl rfl (any_of HT_.out (by kernel_rfl)) (fun _ _ _ h => h) (Or.inl ⟨by rfl, ?_⟩) ?_ ?_
                    rotate_left
                    · intro w'
                      go_simp
                      with_reducible rfl
                    rotate_left
                    · simp only [Act.put, List.setIfInBounds_toArray, List.set_cons_zero, List.set_cons_succ, i64_w, i32_w]
                      rfl
                    refine done_ (done_of HT_.out (by kernel_rfl)) ?_
                    try go_wp2
                    go_roundg k2
                    case measure => have := HK1.out; have := HK2.out; omega
                    case rel => exact ⟨(x9_2), (x12_2), (wrap64 (x15_2 + 1)), (x463000_2), (x463001_2), (x463002_2), (x464000_2), (x464001_2), (x464002_2), (by first | rfl | (simp; done) | (simp [*]; done)), (by first | rfl | (simp; done) | (simp [*]; done)), (by first | rfl | (simp; done) | (simp [*]; done)), H', ⟨by have := HK1.out; have := HK2.out; omega⟩, ⟨bkA BK455⟩, ⟨bkA BK456⟩, ⟨bkA BK462⟩, ⟨bkA BK463⟩, ⟨blA⟩⟩
                · rw [if_neg c51] at H
                  have c51b0 : decide (x15_2 < t465) = false := decide_eq_false c51
                  clear c51
                  have H' := Aside0.mk H
                  clear H
                  go_wp2
                  go_roundg k2
                  case measure => have := HK1.out; have := HK2.out; omega
                  case rel => exact ⟨(x9_2), (x12_2), (x463000_2), (x463001_2), (x463002_2), (x464000_2), (x464001_2), (x464002_2), (by first | rfl | (simp; done) | (simp [*]; done)), (by first | rfl | (simp; done) | (simp [*]; done)), H', ⟨by have := HK1.out; have := HK2.out; omega⟩, ⟨bkA BK455⟩, ⟨bkA BK456⟩, ⟨bkA BK462⟩, ⟨bkA BK463⟩, ⟨blA⟩⟩
          · rw [if_neg c42] at H
            have c42b0 : (!(x463000_1 == a2_0) || (!(x463001_1 == a2_1) || (!(x463002_1 == a2_2)))) = false := by simpa using c42
            clear c42
            simp only [Option.some.injEq, Prod.mk.injEq] at H
            obtain ⟨rfl, rfl⟩ := H
            have hnb112 := NB462_455.out
            have hnc112 := NB455_462.out
            have hnb113 := NB462_456.out
            have hnc113 := NB456_462.out
            have hnb114 := NB462_463.out
            have hnc114 := NB463_462.out
            have hcz115_0 : wr.cell? ⟨gb462, 0, none⟩ = some (.int .i64 x463000_1) := (blk_cell BK462.out 0).trans rfl
            have hcz115_1 : wr.cell? ⟨gb462, 1, none⟩ = some (.int .i64 x463001_1) := (blk_cell BK462.out 1).trans rfl
            have hcz115_2 : wr.cell? ⟨gb462, 2, none⟩ = some (.int .i64 x463002_1) := (blk_cell BK462.out 2).trans rfl
            have hfz115_0 := blk_frozen BK462.out 0
            have hfz115_1 := blk_frozen BK462.out 1
            have hfz115_2 := blk_frozen BK462.out 2
            have hnb116 := NB456_455.out
            have hnc116 := NB455_456.out
            have hnb117 := NB456_463.out
            have hnc117 := NB463_456.out
            have hcz118_0 : wr.cell? ⟨gb456, 0, none⟩ = some (.int .i64 a2_0) := (blk_cell BK456.out 0).trans rfl
            have hcz118_1 : wr.cell? ⟨gb456, 1, none⟩ = some (.int .i64 a2_1) := (blk_cell BK456.out 1).trans rfl
            have hcz118_2 : wr.cell? ⟨gb456, 2, none⟩ = some (.int .i64 a2_2) := (blk_cell BK456.out 2).trans rfl
            have hfz118_0 := blk_frozen BK456.out 0
            have hfz118_1 := blk_frozen BK456.out 1
            have hfz118_2 := blk_frozen BK456.out 2
            go_wp2
            go_ret2
            exact ⟨by first | rfl | (simp [errW_none, errW_some] <;> rfl) | (simp [*, errW_none, errW_some] <;> rfl), blA⟩
  · rw [if_neg c5] at H
    have c5b0 : (t460 == 0) = false := beq_eq_false_iff_ne.mpr c5
    have c5b1 : (t460 != 0) = true := bne_iff_ne.mpr c5
    simp only [Option.some.injEq, Prod.mk.injEq] at H
    obtain ⟨rfl, rfl⟩ := H
    go_enter Try.func24, Try.ntmps24
    go_wp2_with (first | ((with_reducible refine gate_dst (N := 4) rfl ?_); refine box_event ?hg (N := 4) ?hd (cs := #[.int .i64 a1_0, .int .i64 a1_1, .int .i64 a1_2]) (t := 34) ?hr ?_; (case hd => rfl); (case hg => rfl); (case hr => first | (go_simp; done) | (go_simp; rfl)); intro gb455 hg w119 hbox hb; have n0_ := Aside0.mk (below_step blA hb); have n1_ := Aside0.mk (hbox); have n2_ := Aside0.mk (szA hg blA); have n3_ := Aside0.mk (szA hg blA); clear HB; have HB := n0_; have BK455 := n1_; have GW455 := n2_; have GE455 := n3_; clear n0_ n1_ n2_ n3_; clear hb hbox hg) | ((with_reducible refine gate_dst (N := 5) rfl ?_); refine box_event ?hg (N := 5) ?hd (cs := #[.int .i64 a2_0, .int .i64 a2_1, .int .i64 a2_2]) (t := 34) ?hr ?_; (case hd => rfl); (case hg => rfl); (case hr => first | (go_simp; done) | (go_simp; rfl)); intro gb456 hg w120 hbox hb; have n0_ := Aside0.mk (blk_below (bkA BK455) hb); have n1_ := Aside0.mk (below_step blA hb); have n2_ := Aside0.mk (hbox); have n3_ := Aside0.mk (szA hg blA); have n4_ := Aside0.mk (szA hg blA); have n5_ := Aside0.mk (neA hg (bkA BK455)); have n6_ := Aside0.mk (neB hg (bkA BK455)); clear BK455; clear HB; have BK455 := n0_; have HB := n1_; have BK456 := n2_; have GW456 := n3_; have GE456 := n4_; have NB455_456 := n5_; have NB456_455 := n6_; clear n0_ n1_ n2_ n3_ n4_ n5_ n6_; clear hb hbox hg; have hnb121 := NB455_456.out; have hnc121 := NB456_455.out; have hcz122_0 : w120.cell? ⟨gb455, 0, none⟩ = some (.int .i64 a1_0) := (blk_cell BK455.out 0).trans rfl; have hcz122_1 : w120.cell? ⟨gb455, 1, none⟩ = some (.int .i64 a1_1) := (blk_cell BK455.out 1).trans rfl; have hcz122_2 : w120.cell? ⟨gb455, 2, none⟩ = some (.int .i64 a1_2) := (blk_cell BK455.out 2).trans rfl; have hfz122_0 := blk_frozen BK455.out 0; have hfz122_1 := blk_frozen BK455.out 1; have hfz122_2 := blk_frozen BK455.out 2; have hcz123_0 : w120.cell? ⟨gb456, 0, none⟩ = some (.int .i64 a2_0) := (blk_cell BK456.out 0).trans rfl; have hcz123_1 : w120.cell? ⟨gb456, 1, none⟩ = some (.int .i64 a2_1) := (blk_cell BK456.out 1).trans rfl; have hcz123_2 : w120.cell? ⟨gb456, 2, none⟩ = some (.int .i64 a2_2) := (blk_cell BK456.out 2).trans rfl; have hfz123_0 := blk_frozen BK456.out 0; have hfz123_1 := blk_frozen BK456.out 1; have hfz123_2 := blk_frozen BK456.out 2) | ((with_reducible refine gate_dst (N := 21) rfl ?_); refine Kd.R_lit k34 _ 34 ?hg (N := 21) ?hd (xs := ([(⟨a1_0, a1_1, a1_2⟩ : S34), (⟨a2_0, a2_1, a2_2⟩ : S34)] : List (S34))) (inner := [.int .i64 a1_0, .int .i64 a1_1, .int .i64 a1_2, .int .i64 a2_0, .int .i64 a2_1, .int .i64 a2_2]) (ok := fun _ => True) (okp := fun _ => True) ?hr ?hp (fun _ hk => hk) trivial (Below.refl _ _) (Nat.le_refl _) (by simp) ?_; (case hd => rfl); (case hg => rfl); (case hr => first | (go_simp; done) | (go_simp; rfl)); (case hp => exact (Reps.c3 (show Kd.M k34 _ _ _ (⟨a1_0, a1_1, a1_2⟩ : S34) [.int .i64 a1_0, .int .i64 a1_1, .int .i64 a1_2] from (k34_mkM _ _ _ (⟨a1_0, a1_1, a1_2⟩ : S34) )) (Reps.c3 (show Kd.M k34 _ _ _ (⟨a2_0, a2_1, a2_2⟩ : S34) [.int .i64 a2_0, .int .i64 a2_1, .int .i64 a2_2] from (k34_mkM _ _ _ (⟨a2_0, a2_1, a2_2⟩ : S34) )) (Reps.none _ _)))); intro v458 w124 ho125 hb hg_ hnew_; clear hg_ hnew_; (first | rw [← Ny457.out] at ho125 | (simp only [Int.reduceToNat] at ho125; rw [← Ny457.out] at ho125)); have n0_ := Aside0.mk (Kd.R_lower (Kd.R_newB (Kd.R_newB ho125 (bkA BK455)) (bkA BK456)) (below_size blA)); have n1_ := Aside0.mk (blk_below (bkA BK455) hb); have n2_ := Aside0.mk (blk_below (bkA BK456) hb); have n3_ := Aside0.mk (below_step blA hb); clear BK455; clear BK456; clear HB; have HO459 := n0_; have BK455 := n1_; have BK456 := n2_; have HB := n3_; clear n0_ n1_ n2_ n3_; clear hb ho125; obtain ⟨Ao126, co126, eo126⟩ := Kd.R_slice HO459.out; subst eo126) | ((with_reducible refine gate_callee (f := 65) rfl ?_); refine goesL_ (some 22) rfl rfl Try.func65 (by kernel_rfl) rfl #[.int .i64 a0, .slice Ao126 y457.length co126] rfl (by (try simp only [List.map_toArray, List.map_cons, List.map_nil]); first | done | rfl | (simp only [List.length_drop, List.length_take]; rfl)) ?_; (with_reducible refine (spec_l01Code.calls k a0 _ _ y457 t460 _ ?side1 ?side2 A4.out).mono ?_); (case side1 => repeat (first | exact (Kd.R_reads' HO459.out).2.2 | (with_reducible refine Kd.C_alloc ?_ _) | (with_reducible refine Kd.C_drewN ?_ _) | (with_reducible refine Kd.C_drew ?_))); (case side2 => exact (Kd.R_reads' HO459.out).2.1); rintro e w127 ⟨rfl, hb⟩; refine ⟨_, rfl, ?_⟩; have n0_ := Aside0.mk (Kd.R_below (by (with_reducible repeat (first | apply Kd.R_alloc | apply Kd.R_drewN | apply Kd.R_drew)); exact HO459.out) hb); have n1_ := Aside0.mk (blk_below (bkA BK455) hb); have n2_ := Aside0.mk (blk_below (bkA BK456) hb); have n3_ := Aside0.mk (below_step blA hb); clear HO459; clear BK455; clear BK456; clear HB; have HO459 := n0_; have BK455 := n1_; have BK456 := n2_; have HB := n3_; clear n0_ n1_ n2_ n3_; (try clear hb); (try clear hb2); (try clear hk); (try clear hi)))
    go_ret2
    exact ⟨by first | rfl | (simp [errW_none, errW_some] <;> rfl) | (simp [*, errW_none, errW_some] <;> rfl), blA⟩
end Go.Proofs.Ytfkglijnbgijbaa.PAll
